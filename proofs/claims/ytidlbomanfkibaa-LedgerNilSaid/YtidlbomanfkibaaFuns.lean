import Derived.Test.YtidlbomanfkibaaVG
import Derived.Test.YtidlbomanfkibaaChecked
/-
The machine's code of the functions that are reached, and that it is the translated program's. Printed by program.
-/
namespace Go.Proofs.Ytidlbomanfkibaa.L
open Go Go.VM
set_option linter.unusedVariables false

def look {α : Type} : List (Nat × α) → Nat → Option α
  | [], _ => none
  | (j, v) :: r, k => if j = k then some v else look r k
def vf3r0 : List VOper :=
  [⟨(some 2), .asg (.c (.p (.bool false))), [], none⟩]
def vf3r1 : List VOper :=
  [⟨(some 14), .call 8 [(.c (.p (.int Go.IntKind.i64 20)))], [], none⟩,
   ⟨(some 15), .call 9 [(.c (.p (.int Go.IntKind.i64 20)))], [0], none⟩,
   ⟨(some 3), .asg (.t 14), [0, 1, 0], none⟩,
   ⟨(some 4), .asg (.t 15), [1, 2, 0, 1, 2], none⟩]
def vf3r2 : List VOper :=
  [⟨(some 5), .asg (.c (.p (.int Go.IntKind.u32 0))), [], none⟩]
def vf3r3 : List VOper :=
  [⟨(some 16), .mv (.t 0), [], none⟩,
   ⟨(some 17), .len false (.t 16), [0], none⟩,
   ⟨(some 18), .mv (.c (.p (.int Go.IntKind.i64 0))), [], none⟩]
def vf3r4 : List VOper :=
  [⟨(some 19), .bin Go.BinOp.lss .no (.t 18) (.t 17), [], none⟩]
def vf3r5 : List VOper :=
  [⟨(some 20), .mv (.t 18), [], none⟩,
   ⟨(some 21), .iaddrS 21 (.t 16) (.t 18), [], none⟩,
   ⟨(some 22), .load (some 21) (.t 21), [1], none⟩,
   ⟨(some 7), .alloc false [(.int Go.IntKind.i64 0), (.int Go.IntKind.u32 0), (.int Go.IntKind.u32 0), (.int Go.IntKind.u64 0), (.int Go.IntKind.u64 0), (.int Go.IntKind.u32 0), (.int Go.IntKind.u32 0), (.int Go.IntKind.i64 0), (.int Go.IntKind.i64 0), (.int Go.IntKind.i64 0), (.int Go.IntKind.i64 0), (.int Go.IntKind.i64 0), (.int Go.IntKind.i64 0), (.int Go.IntKind.i64 0), (.str []), (.str []), (.str []), (.str []), (.int Go.IntKind.i64 0), (.int Go.IntKind.i64 0), .nils], [], none⟩,
   ⟨(some 6), .asg (.t 20), [0, 0, 1, 2, 3], none⟩,
   ⟨none, .store 21 (.t 7) (.t 22), [3, 2, 4, 0, 1, 2, 3, 4], none⟩]
def vf3r6 : List VOper :=
  [⟨(some 23), .mv (.t 6), [], none⟩,
   ⟨(some 24), .bin Go.BinOp.geq .no (.t 23) (.c (.p (.int Go.IntKind.i64 40))), [0], none⟩]
def vf3r7 : List VOper :=
  [⟨(some 25), .mv (.t 4), [], none⟩,
   ⟨(some 26), .nilck (.t 25), [0], none⟩,
   ⟨(some 27), .faddr 2 (.t 26), [1], none⟩,
   ⟨(some 28), .load none (.t 27), [2], none⟩,
   ⟨(some 29), .len false (.t 28), [3], none⟩,
   ⟨(some 8), .asg (.t 29), [4, 0, 1, 2, 3, 4], none⟩]
def vf3r8 : List VOper :=
  [⟨(some 30), .mv (.t 3), [], none⟩,
   ⟨(some 31), .mv (.t 4), [], none⟩,
   ⟨(some 32), .load (some 21) (.t 7), [], none⟩,
   ⟨(some 33), .call 10 [(.t 30), (.t 31), (.t 32)], [0, 1, 2], none⟩]
def vf3r9 : List VOper :=
  [⟨(some 34), .mv (.t 3), [], none⟩,
   ⟨(some 35), .call 11 [(.t 34)], [0], none⟩,
   ⟨(some 9), .asg (.t 35), [1, 1, 0, 1], none⟩]
def vf3r10 : List VOper :=
  [⟨(some 36), .mv (.t 9), [], none⟩,
   ⟨(some 37), .len false (.t 36), [0], none⟩,
   ⟨(some 38), .mv (.c (.p (.int Go.IntKind.i64 0))), [], none⟩]
def vf3r11 : List VOper :=
  [⟨(some 39), .bin Go.BinOp.lss .no (.t 38) (.t 37), [], none⟩]
def vf3r12 : List VOper :=
  [⟨(some 40), .mv (.t 38), [], none⟩,
   ⟨(some 41), .iaddrS 20 (.t 36) (.t 38), [], none⟩,
   ⟨(some 42), .load (some 20) (.t 41), [1], none⟩,
   ⟨(some 11), .alloc false [(.int Go.IntKind.u32 0), (.int Go.IntKind.u32 0), (.int Go.IntKind.u64 0), (.int Go.IntKind.u64 0), (.int Go.IntKind.u32 0), (.int Go.IntKind.u32 0), (.int Go.IntKind.i64 0), (.int Go.IntKind.i64 0), (.int Go.IntKind.i64 0), (.int Go.IntKind.i64 0), (.int Go.IntKind.i64 0), (.int Go.IntKind.i64 0), (.int Go.IntKind.i64 0), (.str []), (.str []), (.str []), (.str []), (.int Go.IntKind.i64 0), (.int Go.IntKind.i64 0), .nils], [], none⟩,
   ⟨(some 10), .asg (.t 40), [0, 0, 1, 2, 3], none⟩,
   ⟨none, .store 20 (.t 11) (.t 42), [3, 2, 4, 0, 1, 2, 3, 4], none⟩]
def vf3r13 : List VOper :=
  [⟨(some 43), .faddr 1 (.t 11), [], none⟩,
   ⟨(some 44), .load none (.t 43), [0], none⟩,
   ⟨(some 45), .mv (.t 3), [], none⟩,
   ⟨(some 46), .call 12 [(.t 45)], [2], none⟩,
   ⟨(some 47), .bin Go.BinOp.neq .no (.t 44) (.t 46), [1, 3], none⟩,
   ⟨(some 48), .mv (.t 47), [4, 3], none⟩,
   ⟨(some 49), .mv (.t 10), [5], (some (5, false))⟩,
   ⟨(some 50), .bin Go.BinOp.gtr .no (.t 49) (.c (.p (.int Go.IntKind.i64 0))), [6, 5], (some (5, false))⟩,
   ⟨(some 51), .mv (.t 50), [7, 5, 5], (some (5, false))⟩,
   ⟨(some 52), .mv (.t 9), [8], (some (8, true))⟩,
   ⟨(some 53), .mv (.t 10), [8], (some (8, true))⟩,
   ⟨(some 54), .bin Go.BinOp.sub .no (.t 53) (.c (.p (.int Go.IntKind.i64 1))), [10, 8], (some (8, true))⟩,
   ⟨(some 55), .iaddrS 20 (.t 52) (.t 54), [9, 11, 8], (some (8, true))⟩,
   ⟨(some 56), .faddr 0 (.t 55), [12, 8], (some (8, true))⟩,
   ⟨(some 57), .load none (.t 56), [13, 8], (some (8, true))⟩,
   ⟨(some 58), .faddr 0 (.t 11), [8], (some (8, true))⟩,
   ⟨(some 59), .load none (.t 58), [15, 8], (some (8, true))⟩,
   ⟨(some 60), .bin Go.BinOp.geq .no (.t 57) (.t 59), [14, 16, 8], (some (8, true))⟩,
   ⟨(some 61), .pick (.t 51) (.t 60) (.c (.p (.bool false))), [8, 17, 5], (some (5, false))⟩,
   ⟨(some 62), .pick (.t 48) (.c (.p (.bool true))) (.t 61), [5, 18], none⟩]
def vf3r14 : List VOper :=
  [⟨(some 2), .asg (.c (.p (.bool false))), [], none⟩]
def vf3r15 : List VOper :=
  [⟨(some 63), .mv (.t 9), [], none⟩,
   ⟨(some 64), .mv (.t 10), [], none⟩,
   ⟨(some 65), .slc false 20 (.t 63) none (some (.t 64)) none, [0, 1], none⟩,
   ⟨(some 66), .len false (.t 65), [2], none⟩,
   ⟨(some 67), .mv (.c (.p (.int Go.IntKind.i64 0))), [], none⟩]
def vf3r16 : List VOper :=
  [⟨(some 68), .bin Go.BinOp.lss .no (.t 67) (.t 66), [], none⟩]
def vf3r17 : List VOper :=
  [⟨(some 69), .iaddrS 20 (.t 65) (.t 67), [], none⟩,
   ⟨(some 70), .load (some 20) (.t 69), [0], none⟩,
   ⟨(some 13), .alloc false [(.int Go.IntKind.u32 0), (.int Go.IntKind.u32 0), (.int Go.IntKind.u64 0), (.int Go.IntKind.u64 0), (.int Go.IntKind.u32 0), (.int Go.IntKind.u32 0), (.int Go.IntKind.i64 0), (.int Go.IntKind.i64 0), (.int Go.IntKind.i64 0), (.int Go.IntKind.i64 0), (.int Go.IntKind.i64 0), (.int Go.IntKind.i64 0), (.int Go.IntKind.i64 0), (.str []), (.str []), (.str []), (.str []), (.int Go.IntKind.i64 0), (.int Go.IntKind.i64 0), .nils], [], none⟩,
   ⟨none, .store 20 (.t 13) (.t 70), [2, 1, 0, 1, 2], none⟩]
def vf3r18 : List VOper :=
  [⟨(some 71), .faddr 2 (.t 11), [], none⟩,
   ⟨(some 72), .load (some 7) (.t 71), [0], none⟩,
   ⟨(some 73), .faddr 2 (.t 13), [], none⟩,
   ⟨(some 74), .load (some 7) (.t 73), [2], none⟩,
   ⟨(some 75), .bin Go.BinOp.eql (.struct [.int, .int, .int, .int, .int, .int, .int]) (.t 72) (.t 74), [1, 3], none⟩]
def vf3r19 : List VOper :=
  [⟨(some 2), .asg (.c (.p (.bool false))), [], none⟩]
def vf3r20 : List VOper :=
  [⟨(some 76), .bin Go.BinOp.add .no (.t 67) (.c (.p (.int Go.IntKind.i64 1))), [], none⟩,
   ⟨(some 67), .mv (.t 76), [0], none⟩]
def vf3r21 : List VOper :=
  [⟨(some 77), .bin Go.BinOp.add .no (.t 38) (.c (.p (.int Go.IntKind.i64 1))), [], none⟩,
   ⟨(some 38), .mv (.t 77), [0], none⟩]
def vf3r22 : List VOper :=
  [⟨(some 78), .mv (.t 4), [], none⟩,
   ⟨(some 79), .nilck (.t 78), [0], none⟩,
   ⟨(some 80), .faddr 2 (.t 79), [1], none⟩,
   ⟨(some 81), .load none (.t 80), [2], none⟩,
   ⟨(some 82), .len false (.t 81), [3], none⟩,
   ⟨(some 83), .mv (.t 8), [], none⟩,
   ⟨(some 84), .bin Go.BinOp.add .no (.t 83) (.c (.p (.int Go.IntKind.i64 1))), [5], none⟩,
   ⟨(some 85), .bin Go.BinOp.eql .no (.t 82) (.t 84), [4, 6], none⟩]
def vf3r23 : List VOper :=
  [⟨(some 86), .mv (.t 9), [], none⟩,
   ⟨(some 87), .len false (.t 86), [0], none⟩,
   ⟨(some 88), .bin Go.BinOp.eql .no (.t 87) (.c (.p (.int Go.IntKind.i64 0))), [1], none⟩,
   ⟨(some 89), .mv (.t 88), [2], none⟩,
   ⟨(some 90), .mv (.t 9), [3], (some (3, false))⟩,
   ⟨(some 91), .mv (.t 9), [3], (some (3, false))⟩,
   ⟨(some 92), .len false (.t 91), [5, 3], (some (3, false))⟩,
   ⟨(some 93), .bin Go.BinOp.sub .no (.t 92) (.c (.p (.int Go.IntKind.i64 1))), [6, 3], (some (3, false))⟩,
   ⟨(some 94), .iaddrS 20 (.t 90) (.t 93), [4, 7, 3], (some (3, false))⟩,
   ⟨(some 95), .faddr 0 (.t 94), [8, 3], (some (3, false))⟩,
   ⟨(some 96), .load none (.t 95), [9, 3], (some (3, false))⟩,
   ⟨(some 97), .mv (.t 5), [3], (some (3, false))⟩,
   ⟨(some 98), .bin Go.BinOp.add .no (.t 97) (.c (.p (.int Go.IntKind.u32 1))), [11, 3], (some (3, false))⟩,
   ⟨(some 99), .bin Go.BinOp.neq .no (.t 96) (.t 98), [10, 12, 3], (some (3, false))⟩,
   ⟨(some 100), .pick (.t 89) (.c (.p (.bool true))) (.t 99), [3, 13], none⟩]
def vf3r24 : List VOper :=
  [⟨(some 2), .asg (.c (.p (.bool false))), [], none⟩]
def vf3r25 : List VOper :=
  [⟨(some 101), .mv (.t 5), [], none⟩,
   ⟨(some 102), .bin Go.BinOp.add .no (.t 101) (.c (.p (.int Go.IntKind.u32 1))), [0], none⟩,
   ⟨(some 5), .asg (.t 102), [1, 0, 1], none⟩]
def vf3r26 : List VOper :=
  [⟨(some 103), .bin Go.BinOp.add .no (.t 18) (.c (.p (.int Go.IntKind.i64 1))), [], none⟩,
   ⟨(some 18), .mv (.t 103), [0], none⟩]
def vf3r27 : List VOper :=
  [⟨(some 104), .call 13 [], [], none⟩,
   ⟨(some 2), .asg (.t 104), [0, 0, 0], none⟩]
def vf3 : VFun where
  vars := [0, 49, 50, 51, 52, 53, 54, 55, 56, 57, 58, 59, 60, 61, 90, 91, 92, 93, 94, 95, 96, 97, 98, 99]
  boxes := [7, 11, 13]
  mv := []
  res := [(.t 2)]
  body := (.seq (.region none vf3r0 [0, 5, 9, 10, 35, 38, 40, 49, 50, 51, 52, 53, 54, 55, 56, 57, 58, 59, 60, 61, 77, 90, 91, 92, 93, 94, 95, 96, 97, 98, 99, 102] [0, 5, 9, 10, 35, 38, 40, 49, 50, 51, 52, 53, 54, 55, 56, 57, 58, 59, 60, 61, 77, 90, 91, 92, 93, 94, 95, 96, 97, 98, 99, 102])
 (.seq (.region none vf3r1 [0, 3, 4, 5, 9, 10, 14, 15, 35, 38, 40, 49, 50, 51, 52, 53, 54, 55, 56, 57, 58, 59, 60, 61, 77, 90, 91, 92, 93, 94, 95, 96, 97, 98, 99, 102] [0, 3, 4, 5, 9, 10, 14, 15, 35, 38, 40, 49, 50, 51, 52, 53, 54, 55, 56, 57, 58, 59, 60, 61, 77, 90, 91, 92, 93, 94, 95, 96, 97, 98, 99, 102])
 (.seq (.region none vf3r2 [0, 3, 4, 5, 9, 10, 14, 15, 35, 38, 40, 49, 50, 51, 52, 53, 54, 55, 56, 57, 58, 59, 60, 61, 77, 90, 91, 92, 93, 94, 95, 96, 97, 98, 99, 102] [0, 3, 4, 5, 9, 10, 14, 15, 35, 38, 40, 49, 50, 51, 52, 53, 54, 55, 56, 57, 58, 59, 60, 61, 77, 90, 91, 92, 93, 94, 95, 96, 97, 98, 99, 102])
 (.seq (.seq (.region none vf3r3 [0, 3, 4, 5, 9, 10, 14, 15, 16, 17, 18, 35, 38, 40, 49, 50, 51, 52, 53, 54, 55, 56, 57, 58, 59, 60, 61, 77, 90, 91, 92, 93, 94, 95, 96, 97, 98, 99, 102, 103] [0, 3, 4, 5, 9, 10, 14, 15, 16, 17, 18, 35, 38, 40, 49, 50, 51, 52, 53, 54, 55, 56, 57, 58, 59, 60, 61, 77, 90, 91, 92, 93, 94, 95, 96, 97, 98, 99, 102, 103])
 (.block 0 (.loop (.seq (.region none vf3r4 [0, 3, 4, 5, 9, 10, 14, 15, 16, 17, 18, 19, 35, 38, 40, 49, 50, 51, 52, 53, 54, 55, 56, 57, 58, 59, 60, 61, 77, 90, 91, 92, 93, 94, 95, 96, 97, 98, 99, 102, 103] [0, 3, 4, 5, 9, 10, 14, 15, 16, 17, 18, 19, 35, 38, 40, 49, 50, 51, 52, 53, 54, 55, 56, 57, 58, 59, 60, 61, 77, 90, 91, 92, 93, 94, 95, 96, 97, 98, 99, 102, 103])
 (.seq (.cond (.t 19) .skip
 (.exit 0))
 (.seq (.block 1 (.seq (.region none vf3r5 [0, 3, 4, 5, 6, 7, 9, 10, 14, 15, 16, 17, 18, 20, 35, 38, 40, 49, 50, 51, 52, 53, 54, 55, 56, 57, 58, 59, 60, 61, 77, 90, 91, 92, 93, 94, 95, 96, 97, 98, 99, 102, 103] [0, 3, 4, 5, 6, 7, 9, 10, 14, 15, 16, 17, 18, 20, 35, 38, 40, 49, 50, 51, 52, 53, 54, 55, 56, 57, 58, 59, 60, 61, 77, 90, 91, 92, 93, 94, 95, 96, 97, 98, 99, 102, 103])
 (.seq (.seq (.region none vf3r6 [0, 3, 4, 5, 7, 9, 10, 14, 15, 16, 17, 18, 24, 35, 38, 40, 49, 50, 51, 52, 53, 54, 55, 56, 57, 58, 59, 60, 61, 77, 90, 91, 92, 93, 94, 95, 96, 97, 98, 99, 102, 103] [0, 3, 4, 5, 7, 9, 10, 14, 15, 16, 17, 18, 24, 35, 38, 40, 49, 50, 51, 52, 53, 54, 55, 56, 57, 58, 59, 60, 61, 77, 90, 91, 92, 93, 94, 95, 96, 97, 98, 99, 102, 103])
 (.cond (.t 24) (.exit 0)
 .skip))
 (.seq (.region none vf3r7 [0, 3, 4, 5, 7, 8, 9, 10, 14, 15, 16, 17, 18, 29, 35, 38, 40, 49, 50, 51, 52, 53, 54, 55, 56, 57, 58, 59, 60, 61, 77, 90, 91, 92, 93, 94, 95, 96, 97, 98, 99, 102, 103] [0, 3, 4, 5, 7, 8, 9, 10, 14, 15, 16, 17, 18, 29, 35, 38, 40, 49, 50, 51, 52, 53, 54, 55, 56, 57, 58, 59, 60, 61, 77, 90, 91, 92, 93, 94, 95, 96, 97, 98, 99, 102, 103])
 (.seq (.region none vf3r8 [0, 3, 4, 5, 8, 9, 10, 14, 15, 16, 17, 18, 29, 35, 38, 40, 49, 50, 51, 52, 53, 54, 55, 56, 57, 58, 59, 60, 61, 77, 90, 91, 92, 93, 94, 95, 96, 97, 98, 99, 102, 103] [0, 3, 4, 5, 8, 9, 10, 14, 15, 16, 17, 18, 29, 35, 38, 40, 49, 50, 51, 52, 53, 54, 55, 56, 57, 58, 59, 60, 61, 77, 90, 91, 92, 93, 94, 95, 96, 97, 98, 99, 102, 103])
 (.seq (.region none vf3r9 [0, 3, 4, 5, 8, 9, 10, 14, 15, 16, 17, 18, 29, 35, 38, 40, 49, 50, 51, 52, 53, 54, 55, 56, 57, 58, 59, 60, 61, 77, 90, 91, 92, 93, 94, 95, 96, 97, 98, 99, 102, 103] [0, 3, 4, 5, 8, 9, 10, 14, 15, 16, 17, 18, 29, 35, 38, 40, 49, 50, 51, 52, 53, 54, 55, 56, 57, 58, 59, 60, 61, 77, 90, 91, 92, 93, 94, 95, 96, 97, 98, 99, 102, 103])
 (.seq (.seq (.region none vf3r10 [0, 3, 4, 5, 8, 9, 10, 14, 15, 16, 17, 18, 29, 35, 36, 37, 38, 40, 49, 50, 51, 52, 53, 54, 55, 56, 57, 58, 59, 60, 61, 77, 90, 91, 92, 93, 94, 95, 96, 97, 98, 99, 102, 103] [0, 3, 4, 5, 8, 9, 10, 14, 15, 16, 17, 18, 29, 35, 36, 37, 38, 40, 49, 50, 51, 52, 53, 54, 55, 56, 57, 58, 59, 60, 61, 77, 90, 91, 92, 93, 94, 95, 96, 97, 98, 99, 102, 103])
 (.block 2 (.loop (.seq (.region none vf3r11 [0, 3, 4, 5, 8, 9, 10, 14, 15, 16, 17, 18, 29, 35, 36, 37, 38, 39, 40, 49, 50, 51, 52, 53, 54, 55, 56, 57, 58, 59, 60, 61, 77, 90, 91, 92, 93, 94, 95, 96, 97, 98, 99, 102, 103] [0, 3, 4, 5, 8, 9, 10, 14, 15, 16, 17, 18, 29, 35, 36, 37, 38, 39, 40, 49, 50, 51, 52, 53, 54, 55, 56, 57, 58, 59, 60, 61, 77, 90, 91, 92, 93, 94, 95, 96, 97, 98, 99, 102, 103])
 (.seq (.cond (.t 39) .skip
 (.exit 2))
 (.seq (.block 3 (.seq (.region none vf3r12 [0, 3, 4, 5, 8, 9, 10, 11, 14, 15, 16, 17, 18, 29, 35, 36, 37, 38, 40, 49, 50, 51, 52, 53, 54, 55, 56, 57, 58, 59, 60, 61, 77, 90, 91, 92, 93, 94, 95, 96, 97, 98, 99, 102, 103] [0, 3, 4, 5, 8, 9, 10, 11, 14, 15, 16, 17, 18, 29, 35, 36, 37, 38, 40, 49, 50, 51, 52, 53, 54, 55, 56, 57, 58, 59, 60, 61, 77, 90, 91, 92, 93, 94, 95, 96, 97, 98, 99, 102, 103])
 (.seq (.seq (.region (some ([], (.one 0 (.one 1 (.one 2 (.one 3 (.one 4 (.one 5 (.one 6 (.one 7 (.one 8 (.one 9 (.one 10 (.one 11 (.one 12 (.one 13 (.one 14 (.one 15 (.one 16 (.one 17 (.one 18 (.one 19 .fin)))))))))))))))))))))) vf3r13 [0, 3, 4, 5, 8, 9, 10, 11, 14, 15, 16, 17, 18, 29, 35, 36, 37, 38, 40, 49, 50, 51, 52, 53, 54, 55, 56, 57, 58, 59, 60, 61, 62, 77, 90, 91, 92, 93, 94, 95, 96, 97, 98, 99, 102, 103] [0, 3, 4, 5, 8, 9, 10, 11, 14, 15, 16, 17, 18, 29, 35, 36, 37, 38, 40, 49, 50, 51, 52, 53, 54, 55, 56, 57, 58, 59, 60, 61, 62, 77, 90, 91, 92, 93, 94, 95, 96, 97, 98, 99, 102, 103])
 (.cond (.t 62) (.seq (.region none vf3r14 [2, 104] [2, 104])
 .ret)
 .skip))
 (.seq (.region none vf3r15 [0, 3, 4, 5, 8, 9, 10, 11, 14, 15, 16, 17, 18, 29, 35, 36, 37, 38, 40, 49, 50, 51, 52, 53, 54, 55, 56, 57, 58, 59, 60, 61, 63, 65, 66, 67, 76, 77, 90, 91, 92, 93, 94, 95, 96, 97, 98, 99, 102, 103] [0, 3, 4, 5, 8, 9, 10, 11, 14, 15, 16, 17, 18, 29, 35, 36, 37, 38, 40, 49, 50, 51, 52, 53, 54, 55, 56, 57, 58, 59, 60, 61, 63, 65, 66, 67, 76, 77, 90, 91, 92, 93, 94, 95, 96, 97, 98, 99, 102, 103])
 (.block 4 (.loop (.seq (.region none vf3r16 [0, 3, 4, 5, 8, 9, 10, 11, 14, 15, 16, 17, 18, 29, 35, 36, 37, 38, 40, 49, 50, 51, 52, 53, 54, 55, 56, 57, 58, 59, 60, 61, 63, 65, 66, 67, 68, 76, 77, 90, 91, 92, 93, 94, 95, 96, 97, 98, 99, 102, 103] [0, 3, 4, 5, 8, 9, 10, 11, 14, 15, 16, 17, 18, 29, 35, 36, 37, 38, 40, 49, 50, 51, 52, 53, 54, 55, 56, 57, 58, 59, 60, 61, 63, 65, 66, 67, 68, 76, 77, 90, 91, 92, 93, 94, 95, 96, 97, 98, 99, 102, 103])
 (.seq (.cond (.t 68) .skip
 (.exit 4))
 (.seq (.block 5 (.seq (.region none vf3r17 [0, 3, 4, 5, 8, 9, 10, 11, 13, 14, 15, 16, 17, 18, 29, 35, 36, 37, 38, 40, 49, 50, 51, 52, 53, 54, 55, 56, 57, 58, 59, 60, 61, 63, 65, 66, 67, 76, 77, 90, 91, 92, 93, 94, 95, 96, 97, 98, 99, 102, 103] [0, 3, 4, 5, 8, 9, 10, 11, 13, 14, 15, 16, 17, 18, 29, 35, 36, 37, 38, 40, 49, 50, 51, 52, 53, 54, 55, 56, 57, 58, 59, 60, 61, 63, 65, 66, 67, 76, 77, 90, 91, 92, 93, 94, 95, 96, 97, 98, 99, 102, 103])
 (.seq (.region none vf3r18 [0, 3, 4, 5, 8, 9, 10, 11, 14, 15, 16, 17, 18, 29, 35, 36, 37, 38, 40, 49, 50, 51, 52, 53, 54, 55, 56, 57, 58, 59, 60, 61, 63, 65, 66, 67, 75, 76, 77, 90, 91, 92, 93, 94, 95, 96, 97, 98, 99, 102, 103] [0, 3, 4, 5, 8, 9, 10, 11, 14, 15, 16, 17, 18, 29, 35, 36, 37, 38, 40, 49, 50, 51, 52, 53, 54, 55, 56, 57, 58, 59, 60, 61, 63, 65, 66, 67, 75, 76, 77, 90, 91, 92, 93, 94, 95, 96, 97, 98, 99, 102, 103])
 (.cond (.t 75) (.seq (.region none vf3r19 [2, 104] [2, 104])
 .ret)
 .skip))))
 (.region none vf3r20 [0, 3, 4, 5, 8, 9, 10, 11, 14, 15, 16, 17, 18, 29, 35, 36, 37, 38, 40, 49, 50, 51, 52, 53, 54, 55, 56, 57, 58, 59, 60, 61, 63, 65, 66, 67, 76, 77, 90, 91, 92, 93, 94, 95, 96, 97, 98, 99, 102, 103] [0, 3, 4, 5, 8, 9, 10, 11, 14, 15, 16, 17, 18, 29, 35, 36, 37, 38, 40, 49, 50, 51, 52, 53, 54, 55, 56, 57, 58, 59, 60, 61, 63, 65, 66, 67, 76, 77, 90, 91, 92, 93, 94, 95, 96, 97, 98, 99, 102, 103]))))))))))
 (.region none vf3r21 [0, 3, 4, 5, 8, 9, 10, 14, 15, 16, 17, 18, 29, 35, 36, 37, 38, 40, 49, 50, 51, 52, 53, 54, 55, 56, 57, 58, 59, 60, 61, 77, 90, 91, 92, 93, 94, 95, 96, 97, 98, 99, 102, 103] [0, 3, 4, 5, 8, 9, 10, 14, 15, 16, 17, 18, 29, 35, 36, 37, 38, 40, 49, 50, 51, 52, 53, 54, 55, 56, 57, 58, 59, 60, 61, 77, 90, 91, 92, 93, 94, 95, 96, 97, 98, 99, 102, 103])))))))
 (.seq (.region none vf3r22 [0, 3, 4, 5, 9, 10, 14, 15, 16, 17, 18, 35, 38, 40, 49, 50, 51, 52, 53, 54, 55, 56, 57, 58, 59, 60, 61, 77, 85, 90, 91, 92, 93, 94, 95, 96, 97, 98, 99, 102, 103] [0, 3, 4, 5, 9, 10, 14, 15, 16, 17, 18, 35, 38, 40, 49, 50, 51, 52, 53, 54, 55, 56, 57, 58, 59, 60, 61, 77, 85, 90, 91, 92, 93, 94, 95, 96, 97, 98, 99, 102, 103])
 (.cond (.t 85) (.seq (.seq (.region none vf3r23 [0, 3, 4, 5, 9, 10, 14, 15, 16, 17, 18, 35, 38, 40, 49, 50, 51, 52, 53, 54, 55, 56, 57, 58, 59, 60, 61, 77, 90, 91, 92, 93, 94, 95, 96, 97, 98, 99, 100, 102, 103] [0, 3, 4, 5, 9, 10, 14, 15, 16, 17, 18, 35, 38, 40, 49, 50, 51, 52, 53, 54, 55, 56, 57, 58, 59, 60, 61, 77, 90, 91, 92, 93, 94, 95, 96, 97, 98, 99, 100, 102, 103])
 (.cond (.t 100) (.seq (.region none vf3r24 [2, 104] [2, 104])
 .ret)
 .skip))
 (.region none vf3r25 [0, 3, 4, 5, 9, 10, 14, 15, 16, 17, 18, 35, 38, 40, 49, 50, 51, 52, 53, 54, 55, 56, 57, 58, 59, 60, 61, 77, 90, 91, 92, 93, 94, 95, 96, 97, 98, 99, 102, 103] [0, 3, 4, 5, 9, 10, 14, 15, 16, 17, 18, 35, 38, 40, 49, 50, 51, 52, 53, 54, 55, 56, 57, 58, 59, 60, 61, 77, 90, 91, 92, 93, 94, 95, 96, 97, 98, 99, 102, 103]))
 .skip)))))))))
 (.region none vf3r26 [0, 3, 4, 5, 9, 10, 14, 15, 16, 17, 18, 35, 38, 40, 49, 50, 51, 52, 53, 54, 55, 56, 57, 58, 59, 60, 61, 77, 90, 91, 92, 93, 94, 95, 96, 97, 98, 99, 102, 103] [0, 3, 4, 5, 9, 10, 14, 15, 16, 17, 18, 35, 38, 40, 49, 50, 51, 52, 53, 54, 55, 56, 57, 58, 59, 60, 61, 77, 90, 91, 92, 93, 94, 95, 96, 97, 98, 99, 102, 103])))))))
 (.seq (.region none vf3r27 [2, 104] [2, 104])
 .ret)))))

def vf4r0 : List VOper :=
  [⟨(some 3), .box false 7 (.t 1), [], none⟩,
   ⟨(some 4), .asg (.c (.p (.bool false))), [], none⟩]
def vf4r1 : List VOper :=
  [⟨(some 14), .call 8 [(.c (.p (.int Go.IntKind.i64 20)))], [], none⟩,
   ⟨(some 15), .call 9 [(.c (.p (.int Go.IntKind.i64 20)))], [0], none⟩,
   ⟨(some 5), .asg (.t 14), [0, 1, 0], none⟩,
   ⟨(some 6), .asg (.t 15), [1, 2, 0, 1, 2], none⟩]
def vf4r2 : List VOper :=
  [⟨(some 16), .mv (.t 0), [], none⟩,
   ⟨(some 17), .len false (.t 16), [0], none⟩,
   ⟨(some 18), .mv (.c (.p (.int Go.IntKind.i64 0))), [], none⟩]
def vf4r3 : List VOper :=
  [⟨(some 19), .bin Go.BinOp.lss .no (.t 18) (.t 17), [], none⟩]
def vf4r4 : List VOper :=
  [⟨(some 20), .mv (.t 18), [], none⟩,
   ⟨(some 21), .iaddrS 21 (.t 16) (.t 18), [], none⟩,
   ⟨(some 22), .load (some 21) (.t 21), [1], none⟩,
   ⟨(some 8), .alloc false [(.int Go.IntKind.i64 0), (.int Go.IntKind.u32 0), (.int Go.IntKind.u32 0), (.int Go.IntKind.u64 0), (.int Go.IntKind.u64 0), (.int Go.IntKind.u32 0), (.int Go.IntKind.u32 0), (.int Go.IntKind.i64 0), (.int Go.IntKind.i64 0), (.int Go.IntKind.i64 0), (.int Go.IntKind.i64 0), (.int Go.IntKind.i64 0), (.int Go.IntKind.i64 0), (.int Go.IntKind.i64 0), (.str []), (.str []), (.str []), (.str []), (.int Go.IntKind.i64 0), (.int Go.IntKind.i64 0), .nils], [], none⟩,
   ⟨(some 7), .asg (.t 20), [0, 0, 1, 2, 3], none⟩,
   ⟨none, .store 21 (.t 8) (.t 22), [3, 2, 4, 0, 1, 2, 3, 4], none⟩]
def vf4r5 : List VOper :=
  [⟨(some 23), .mv (.t 7), [], none⟩,
   ⟨(some 24), .bin Go.BinOp.lss .no (.t 23) (.c (.p (.int Go.IntKind.i64 40))), [0], none⟩]
def vf4r6 : List VOper :=
  [⟨(some 25), .mv (.t 5), [], none⟩,
   ⟨(some 26), .mv (.t 6), [], none⟩,
   ⟨(some 27), .load (some 21) (.t 8), [], none⟩,
   ⟨(some 28), .call 10 [(.t 25), (.t 26), (.t 27)], [0, 1, 2], none⟩]
def vf4r7 : List VOper :=
  [⟨(some 29), .bin Go.BinOp.add .no (.t 18) (.c (.p (.int Go.IntKind.i64 1))), [], none⟩,
   ⟨(some 18), .mv (.t 29), [0], none⟩]
def vf4r8 : List VOper :=
  [⟨(some 31), .mv (.t 5), [], none⟩,
   ⟨(some 32), .load (some 7) (.t 3), [], none⟩,
   ⟨(some 33), .call 14 [(.t 31), (.t 32)], [0, 1], none⟩,
   ⟨(some 30), .mv (.t 33), [2], none⟩,
   ⟨(some 34), .ext (.t 30) 0, [3], none⟩,
   ⟨(some 35), .ext (.t 30) 1, [3], none⟩,
   ⟨(some 9), .alloc false [(.int Go.IntKind.u32 0), (.int Go.IntKind.u32 0), (.int Go.IntKind.u64 0), (.int Go.IntKind.u64 0), (.int Go.IntKind.u32 0), (.int Go.IntKind.u32 0), (.int Go.IntKind.i64 0), (.int Go.IntKind.i64 0), (.int Go.IntKind.i64 0), (.int Go.IntKind.i64 0), (.int Go.IntKind.i64 0), (.int Go.IntKind.i64 0), (.int Go.IntKind.i64 0), (.str []), (.str []), (.str []), (.str []), (.int Go.IntKind.i64 0), (.int Go.IntKind.i64 0), .nils], [], none⟩,
   ⟨none, .store 20 (.t 9) (.t 34), [6, 4, 2, 0, 1, 2, 3, 4, 6], none⟩,
   ⟨(some 10), .asg (.t 35), [5, 7, 0, 1, 2, 3, 4, 5, 6, 7], none⟩]
def vf4r9 : List VOper :=
  [⟨(some 11), .asg (.c (.p (.bool false))), [], none⟩]
def vf4r10 : List VOper :=
  [⟨(some 36), .mv (.t 5), [], none⟩,
   ⟨(some 37), .call 11 [(.t 36)], [0], none⟩,
   ⟨(some 38), .call 15 [(.t 37)], [1, 1], none⟩,
   ⟨(some 39), .len false (.t 38), [2], none⟩,
   ⟨(some 40), .mv (.c (.p (.int Go.IntKind.i64 0))), [], none⟩]
def vf4r11 : List VOper :=
  [⟨(some 41), .bin Go.BinOp.lss .no (.t 40) (.t 39), [], none⟩]
def vf4r12 : List VOper :=
  [⟨(some 42), .iaddrS 20 (.t 38) (.t 40), [], none⟩,
   ⟨(some 43), .load (some 20) (.t 42), [0], none⟩,
   ⟨(some 13), .alloc false [(.int Go.IntKind.u32 0), (.int Go.IntKind.u32 0), (.int Go.IntKind.u64 0), (.int Go.IntKind.u64 0), (.int Go.IntKind.u32 0), (.int Go.IntKind.u32 0), (.int Go.IntKind.i64 0), (.int Go.IntKind.i64 0), (.int Go.IntKind.i64 0), (.int Go.IntKind.i64 0), (.int Go.IntKind.i64 0), (.int Go.IntKind.i64 0), (.int Go.IntKind.i64 0), (.str []), (.str []), (.str []), (.str []), (.int Go.IntKind.i64 0), (.int Go.IntKind.i64 0), .nils], [], none⟩,
   ⟨none, .store 20 (.t 13) (.t 43), [2, 1, 0, 1, 2], none⟩]
def vf4r13 : List VOper :=
  [⟨(some 57), .bin Go.BinOp.add .no (.t 40) (.c (.p (.int Go.IntKind.i64 1))), [], none⟩,
   ⟨(some 40), .mv (.t 57), [0], none⟩]
def vf4r14 : List VOper :=
  [⟨(some 58), .mv (.t 10), [], none⟩,
   ⟨(some 59), .mv (.t 11), [], none⟩,
   ⟨(some 60), .bin Go.BinOp.eql .bool (.t 58) (.t 59), [0, 1], none⟩,
   ⟨(some 61), .mv (.t 60), [2], none⟩,
   ⟨(some 62), .mv (.t 10), [3], (some (3, true))⟩,
   ⟨(some 63), .un Go.UnOp.not (.t 62), [4, 3], (some (3, true))⟩,
   ⟨(some 64), .mv (.t 63), [5, 3, 3], (some (3, true))⟩,
   ⟨(some 65), .faddr 2 (.t 9), [6], (some (6, false))⟩,
   ⟨(some 66), .load (some 7) (.t 65), [7, 6], (some (6, false))⟩,
   ⟨(some 67), .load (some 7) (.t 3), [6], (some (6, false))⟩,
   ⟨(some 68), .call 16 [(.t 67)], [9, 6, 6], (some (6, false))⟩,
   ⟨(some 69), .bin Go.BinOp.eql (.struct [.int, .int, .int, .int, .int, .int, .int]) (.t 66) (.t 68), [8, 10, 6], (some (6, false))⟩,
   ⟨(some 70), .pick (.t 64) (.c (.p (.bool true))) (.t 69), [6, 11, 3], (some (3, true))⟩,
   ⟨(some 71), .pick (.t 61) (.t 70) (.c (.p (.bool false))), [3, 12], none⟩,
   ⟨(some 72), .mv (.t 71), [13, 10], none⟩,
   ⟨(some 73), .call 13 [], [14, 14], (some (14, true))⟩,
   ⟨(some 74), .pick (.t 72) (.t 73) (.c (.p (.bool false))), [14, 15], none⟩,
   ⟨(some 4), .asg (.t 74), [16, 15, 0, 1, 2, 3, 4, 5, 6, 7, 8, 9, 10, 11, 12, 13, 14, 15, 16], none⟩]
def vf4 : VFun where
  vars := [0, 1, 62, 63, 64, 65, 66, 67, 68, 69, 70, 73]
  boxes := [3, 8, 9, 13]
  mv := []
  res := [(.t 4)]
  body := (.seq (.region none vf4r0 [0, 3, 10, 35, 62, 63, 64, 65, 66, 67, 68, 69, 70, 73] [0, 3, 10, 35, 62, 63, 64, 65, 66, 67, 68, 69, 70, 73])
 (.seq (.region none vf4r1 [0, 3, 5, 6, 10, 14, 15, 35, 62, 63, 64, 65, 66, 67, 68, 69, 70, 73] [0, 3, 5, 6, 10, 14, 15, 35, 62, 63, 64, 65, 66, 67, 68, 69, 70, 73])
 (.seq (.seq (.region none vf4r2 [0, 3, 5, 6, 10, 14, 15, 16, 17, 18, 29, 35, 62, 63, 64, 65, 66, 67, 68, 69, 70, 73] [0, 3, 5, 6, 10, 14, 15, 16, 17, 18, 29, 35, 62, 63, 64, 65, 66, 67, 68, 69, 70, 73])
 (.block 0 (.loop (.seq (.region none vf4r3 [0, 3, 5, 6, 10, 14, 15, 16, 17, 18, 19, 29, 35, 62, 63, 64, 65, 66, 67, 68, 69, 70, 73] [0, 3, 5, 6, 10, 14, 15, 16, 17, 18, 19, 29, 35, 62, 63, 64, 65, 66, 67, 68, 69, 70, 73])
 (.seq (.cond (.t 19) .skip
 (.exit 0))
 (.seq (.block 1 (.seq (.region none vf4r4 [0, 3, 5, 6, 7, 8, 10, 14, 15, 16, 17, 18, 20, 29, 35, 62, 63, 64, 65, 66, 67, 68, 69, 70, 73] [0, 3, 5, 6, 7, 8, 10, 14, 15, 16, 17, 18, 20, 29, 35, 62, 63, 64, 65, 66, 67, 68, 69, 70, 73])
 (.seq (.region none vf4r5 [0, 3, 5, 6, 8, 10, 14, 15, 16, 17, 18, 24, 29, 35, 62, 63, 64, 65, 66, 67, 68, 69, 70, 73] [0, 3, 5, 6, 8, 10, 14, 15, 16, 17, 18, 24, 29, 35, 62, 63, 64, 65, 66, 67, 68, 69, 70, 73])
 (.cond (.t 24) (.region none vf4r6 [0, 3, 5, 6, 10, 14, 15, 16, 17, 18, 29, 35, 62, 63, 64, 65, 66, 67, 68, 69, 70, 73] [0, 3, 5, 6, 10, 14, 15, 16, 17, 18, 29, 35, 62, 63, 64, 65, 66, 67, 68, 69, 70, 73])
 .skip))))
 (.region none vf4r7 [0, 3, 5, 6, 10, 14, 15, 16, 17, 18, 29, 35, 62, 63, 64, 65, 66, 67, 68, 69, 70, 73] [0, 3, 5, 6, 10, 14, 15, 16, 17, 18, 29, 35, 62, 63, 64, 65, 66, 67, 68, 69, 70, 73])))))))
 (.seq (.region none vf4r8 [3, 5, 9, 10, 14, 35, 62, 63, 64, 65, 66, 67, 68, 69, 70, 73] [3, 5, 9, 10, 14, 35, 62, 63, 64, 65, 66, 67, 68, 69, 70, 73])
 (.seq (.region none vf4r9 [3, 5, 9, 10, 11, 14, 35, 62, 63, 64, 65, 66, 67, 68, 69, 70, 73] [3, 5, 9, 10, 11, 14, 35, 62, 63, 64, 65, 66, 67, 68, 69, 70, 73])
 (.seq (.seq (.region none vf4r10 [3, 9, 10, 11, 35, 38, 39, 40, 57, 62, 63, 64, 65, 66, 67, 68, 69, 70, 73] [3, 9, 10, 11, 35, 38, 39, 40, 57, 62, 63, 64, 65, 66, 67, 68, 69, 70, 73])
 (.block 2 (.loop (.seq (.region none vf4r11 [3, 9, 10, 11, 35, 38, 40, 41, 57, 62, 63, 64, 65, 66, 67, 68, 69, 70, 73] [3, 9, 10, 11, 35, 38, 40, 41, 57, 62, 63, 64, 65, 66, 67, 68, 69, 70, 73])
 (.seq (.cond (.t 41) .skip
 (.exit 2))
 (.seq (.block 3 (.seq (.region none vf4r12 [] [])
 .stuck))
 (.region none vf4r13 [3, 9, 10, 11, 35, 38, 39, 40, 57, 62, 63, 64, 65, 66, 67, 68, 69, 70, 73] [3, 9, 10, 11, 35, 38, 39, 40, 57, 62, 63, 64, 65, 66, 67, 68, 69, 70, 73])))))))
 (.seq (.region (some ([17], (.one 0 (.one 1 (.one 2 (.one 3 (.one 4 (.one 5 (.one 6 (.one 7 (.one 8 (.one 9 (.one 10 (.one 11 (.one 12 (.one 13 (.one 14 (.one 15 (.one 16 (.one 17 .fin)))))))))))))))))))) vf4r14 [4, 74] [4, 74])
 .ret)))))))

def vf5r0 : List VOper :=
  [⟨(some 4), .asg (.c (.p (.bool false))), [], none⟩]
def vf5r1 : List VOper :=
  [⟨(some 9), .mv (.t 0), [], none⟩,
   ⟨(some 10), .bin Go.BinOp.rem .no (.t 9) (.c (.p (.int Go.IntKind.i64 12))), [0], none⟩,
   ⟨(some 0), .asg (.t 10), [1, 0, 1], none⟩]
def vf5r2 : List VOper :=
  [⟨(some 11), .mv (.t 0), [], none⟩,
   ⟨(some 12), .call 8 [(.t 11)], [0], none⟩,
   ⟨(some 13), .mv (.t 0), [], none⟩,
   ⟨(some 14), .call 9 [(.t 13)], [2, 1], none⟩,
   ⟨(some 5), .asg (.t 12), [1, 3, 0, 1], none⟩,
   ⟨(some 6), .asg (.t 14), [3, 4, 0, 1, 2, 3, 4], none⟩]
def vf5r3 : List VOper :=
  [⟨(some 15), .mv (.t 1), [], none⟩,
   ⟨(some 16), .len false (.t 15), [0], none⟩,
   ⟨(some 17), .mv (.c (.p (.int Go.IntKind.i64 0))), [], none⟩]
def vf5r4 : List VOper :=
  [⟨(some 18), .bin Go.BinOp.lss .no (.t 17) (.t 16), [], none⟩]
def vf5r5 : List VOper :=
  [⟨(some 19), .mv (.t 17), [], none⟩,
   ⟨(some 20), .iaddrS 21 (.t 15) (.t 17), [], none⟩,
   ⟨(some 21), .load (some 21) (.t 20), [1], none⟩,
   ⟨(some 8), .alloc false [(.int Go.IntKind.i64 0), (.int Go.IntKind.u32 0), (.int Go.IntKind.u32 0), (.int Go.IntKind.u64 0), (.int Go.IntKind.u64 0), (.int Go.IntKind.u32 0), (.int Go.IntKind.u32 0), (.int Go.IntKind.i64 0), (.int Go.IntKind.i64 0), (.int Go.IntKind.i64 0), (.int Go.IntKind.i64 0), (.int Go.IntKind.i64 0), (.int Go.IntKind.i64 0), (.int Go.IntKind.i64 0), (.str []), (.str []), (.str []), (.str []), (.int Go.IntKind.i64 0), (.int Go.IntKind.i64 0), .nils], [], none⟩,
   ⟨(some 7), .asg (.t 19), [0, 0, 1, 2, 3], none⟩,
   ⟨none, .store 21 (.t 8) (.t 21), [3, 2, 4, 0, 1, 2, 3, 4], none⟩]
def vf5r6 : List VOper :=
  [⟨(some 22), .mv (.t 7), [], none⟩,
   ⟨(some 23), .bin Go.BinOp.geq .no (.t 22) (.c (.p (.int Go.IntKind.i64 40))), [0], none⟩]
def vf5r7 : List VOper :=
  [⟨(some 24), .mv (.t 5), [], none⟩,
   ⟨(some 25), .mv (.t 6), [], none⟩,
   ⟨(some 26), .load (some 21) (.t 8), [], none⟩,
   ⟨(some 27), .call 10 [(.t 24), (.t 25), (.t 26)], [0, 1, 2], none⟩,
   ⟨(some 28), .un Go.UnOp.not (.t 27), [3], none⟩,
   ⟨(some 29), .mv (.t 28), [4, 3], none⟩,
   ⟨(some 30), .mv (.t 5), [5], (some (5, false))⟩,
   ⟨(some 31), .mv (.t 6), [5], (some (5, false))⟩,
   ⟨(some 32), .faddr 1 (.t 8), [5], (some (5, false))⟩,
   ⟨(some 33), .faddr 2 (.t 32), [8, 5], (some (5, false))⟩,
   ⟨(some 34), .load (some 7) (.t 33), [9, 5], (some (5, false))⟩,
   ⟨(some 35), .faddr 1 (.t 8), [5], (some (5, false))⟩,
   ⟨(some 36), .faddr 0 (.t 35), [11, 5], (some (5, false))⟩,
   ⟨(some 37), .load none (.t 36), [12, 5], (some (5, false))⟩,
   ⟨(some 38), .call 17 [(.t 30), (.t 31), (.t 34), (.t 37)], [6, 7, 10, 13, 5, 5], (some (5, false))⟩,
   ⟨(some 39), .un Go.UnOp.not (.t 38), [14, 5], (some (5, false))⟩,
   ⟨(some 40), .pick (.t 29) (.c (.p (.bool true))) (.t 39), [5, 15], none⟩]
def vf5r8 : List VOper :=
  [⟨(some 4), .asg (.c (.p (.bool false))), [], none⟩]
def vf5r9 : List VOper :=
  [⟨(some 41), .bin Go.BinOp.add .no (.t 17) (.c (.p (.int Go.IntKind.i64 1))), [], none⟩,
   ⟨(some 17), .mv (.t 41), [0], none⟩]
def vf5r10 : List VOper :=
  [⟨(some 42), .call 13 [], [], none⟩,
   ⟨(some 4), .asg (.t 42), [0, 0, 0], none⟩]
def vf5 : VFun where
  vars := [0, 1, 30, 31, 32, 33, 34, 35, 36, 37, 38, 39]
  boxes := [8]
  mv := []
  res := [(.t 4)]
  body := (.seq (.region none vf5r0 [0, 1, 5, 6, 10, 12, 14, 30, 31, 32, 33, 34, 35, 36, 37, 38, 39] [0, 1, 5, 6, 10, 12, 14, 30, 31, 32, 33, 34, 35, 36, 37, 38, 39])
 (.seq (.region none vf5r1 [0, 1, 5, 6, 10, 12, 14, 30, 31, 32, 33, 34, 35, 36, 37, 38, 39] [0, 1, 5, 6, 10, 12, 14, 30, 31, 32, 33, 34, 35, 36, 37, 38, 39])
 (.seq (.region none vf5r2 [1, 5, 6, 12, 14, 30, 31, 32, 33, 34, 35, 36, 37, 38, 39] [1, 5, 6, 12, 14, 30, 31, 32, 33, 34, 35, 36, 37, 38, 39])
 (.seq (.seq (.region none vf5r3 [1, 5, 6, 12, 14, 15, 16, 17, 30, 31, 32, 33, 34, 35, 36, 37, 38, 39, 41] [1, 5, 6, 12, 14, 15, 16, 17, 30, 31, 32, 33, 34, 35, 36, 37, 38, 39, 41])
 (.block 0 (.loop (.seq (.region none vf5r4 [1, 5, 6, 12, 14, 15, 16, 17, 18, 30, 31, 32, 33, 34, 35, 36, 37, 38, 39, 41] [1, 5, 6, 12, 14, 15, 16, 17, 18, 30, 31, 32, 33, 34, 35, 36, 37, 38, 39, 41])
 (.seq (.cond (.t 18) .skip
 (.exit 0))
 (.seq (.block 1 (.seq (.region none vf5r5 [1, 5, 6, 7, 8, 12, 14, 15, 16, 17, 19, 30, 31, 32, 33, 34, 35, 36, 37, 38, 39, 41] [1, 5, 6, 7, 8, 12, 14, 15, 16, 17, 19, 30, 31, 32, 33, 34, 35, 36, 37, 38, 39, 41])
 (.seq (.seq (.region none vf5r6 [1, 5, 6, 8, 12, 14, 15, 16, 17, 23, 30, 31, 32, 33, 34, 35, 36, 37, 38, 39, 41] [1, 5, 6, 8, 12, 14, 15, 16, 17, 23, 30, 31, 32, 33, 34, 35, 36, 37, 38, 39, 41])
 (.cond (.t 23) (.exit 0)
 .skip))
 (.seq (.region none vf5r7 [1, 5, 6, 12, 14, 15, 16, 17, 30, 31, 32, 33, 34, 35, 36, 37, 38, 39, 40, 41] [1, 5, 6, 12, 14, 15, 16, 17, 30, 31, 32, 33, 34, 35, 36, 37, 38, 39, 40, 41])
 (.cond (.t 40) (.seq (.region none vf5r8 [4, 42] [4, 42])
 .ret)
 .skip)))))
 (.region none vf5r9 [1, 5, 6, 12, 14, 15, 16, 17, 30, 31, 32, 33, 34, 35, 36, 37, 38, 39, 41] [1, 5, 6, 12, 14, 15, 16, 17, 30, 31, 32, 33, 34, 35, 36, 37, 38, 39, 41])))))))
 (.seq (.region none vf5r10 [4, 42] [4, 42])
 .ret)))))

def vf6r0 : List VOper :=
  [⟨(some 1), .box false 20 (.t 0), [], none⟩,
   ⟨(some 2), .asg (.c (.p (.bool false))), [], none⟩]
def vf6r1 : List VOper :=
  [⟨(some 12), .load (some 20) (.t 1), [], none⟩,
   ⟨(some 13), .call 18 [(.t 12)], [0], none⟩,
   ⟨none, .store 20 (.t 1) (.t 13), [1, 1, 0, 1], none⟩]
def vf6r2 : List VOper :=
  [⟨(some 3), .asg (.c .nilp), [], none⟩]
def vf6r3 : List VOper :=
  [⟨(some 15), .mv (.t 3), [], none⟩,
   ⟨(some 16), .load (some 20) (.t 1), [], none⟩,
   ⟨(some 17), .call 20 [(.t 16)], [1], none⟩,
   ⟨(some 18), .call 19 [(.t 15), (.t 17)], [0, 2, 2], none⟩,
   ⟨(some 14), .mv (.t 18), [3], none⟩,
   ⟨(some 19), .ext (.t 14) 0, [4], none⟩,
   ⟨(some 20), .ext (.t 14) 1, [4], none⟩,
   ⟨(some 4), .alloc false [(.int Go.IntKind.u32 0), (.int Go.IntKind.u32 0), (.int Go.IntKind.u64 0), (.int Go.IntKind.u64 0), (.int Go.IntKind.u32 0), (.int Go.IntKind.u32 0), (.int Go.IntKind.i64 0), (.int Go.IntKind.i64 0), (.int Go.IntKind.i64 0), (.int Go.IntKind.i64 0), (.int Go.IntKind.i64 0), (.int Go.IntKind.i64 0), (.int Go.IntKind.i64 0), (.str []), (.str []), (.str []), (.str []), (.int Go.IntKind.i64 0), (.int Go.IntKind.i64 0), .nils], [], none⟩,
   ⟨none, .store 20 (.t 4) (.t 19), [7, 5, 3, 0, 1, 2, 3, 4, 5, 7], none⟩,
   ⟨(some 5), .asg (.t 20), [6, 8, 0, 1, 2, 3, 4, 5, 6, 7, 8], none⟩]
def vf6r4 : List VOper :=
  [⟨(some 22), .mv (.t 3), [], none⟩,
   ⟨(some 23), .faddr 2 (.t 1), [], none⟩,
   ⟨(some 24), .load (some 7) (.t 23), [1], none⟩,
   ⟨(some 25), .call 21 [(.t 22), (.t 24)], [0, 2], none⟩,
   ⟨(some 21), .mv (.t 25), [3], none⟩,
   ⟨(some 26), .ext (.t 21) 0, [4], none⟩,
   ⟨(some 27), .ext (.t 21) 1, [4], none⟩,
   ⟨(some 6), .alloc false [(.int Go.IntKind.u32 0), (.int Go.IntKind.u32 0), (.int Go.IntKind.u64 0), (.int Go.IntKind.u64 0), (.int Go.IntKind.u32 0), (.int Go.IntKind.u32 0), (.int Go.IntKind.i64 0), (.int Go.IntKind.i64 0), (.int Go.IntKind.i64 0), (.int Go.IntKind.i64 0), (.int Go.IntKind.i64 0), (.int Go.IntKind.i64 0), (.int Go.IntKind.i64 0), (.str []), (.str []), (.str []), (.str []), (.int Go.IntKind.i64 0), (.int Go.IntKind.i64 0), .nils], [], none⟩,
   ⟨none, .store 20 (.t 6) (.t 26), [7, 5, 3, 0, 1, 2, 3, 4, 5, 7], none⟩,
   ⟨(some 7), .asg (.t 27), [6, 8, 0, 1, 2, 3, 4, 5, 6, 7, 8], none⟩]
def vf6r5 : List VOper :=
  [⟨(some 29), .mv (.t 3), [], none⟩,
   ⟨(some 30), .faddr 0 (.t 1), [], none⟩,
   ⟨(some 31), .load none (.t 30), [1], none⟩,
   ⟨(some 32), .call 22 [(.t 29), (.t 31)], [0, 2], none⟩,
   ⟨(some 28), .mv (.t 32), [3], none⟩,
   ⟨(some 33), .ext (.t 28) 0, [4], none⟩,
   ⟨(some 34), .ext (.t 28) 1, [4], none⟩,
   ⟨(some 8), .alloc false [(.int Go.IntKind.u32 0), (.int Go.IntKind.u32 0), (.int Go.IntKind.u64 0), (.int Go.IntKind.u64 0), (.int Go.IntKind.u32 0), (.int Go.IntKind.u32 0), (.int Go.IntKind.i64 0), (.int Go.IntKind.i64 0), (.int Go.IntKind.i64 0), (.int Go.IntKind.i64 0), (.int Go.IntKind.i64 0), (.int Go.IntKind.i64 0), (.int Go.IntKind.i64 0), (.str []), (.str []), (.str []), (.str []), (.int Go.IntKind.i64 0), (.int Go.IntKind.i64 0), .nils], [], none⟩,
   ⟨none, .store 20 (.t 8) (.t 33), [7, 5, 3, 0, 1, 2, 3, 4, 5, 7], none⟩,
   ⟨(some 9), .asg (.t 34), [6, 8, 0, 1, 2, 3, 4, 5, 6, 7, 8], none⟩]
def vf6r6 : List VOper :=
  [⟨(some 36), .mv (.t 3), [], none⟩,
   ⟨(some 37), .faddr 2 (.t 1), [], none⟩,
   ⟨(some 38), .load (some 7) (.t 37), [1], none⟩,
   ⟨(some 39), .call 14 [(.t 36), (.t 38)], [0, 2], none⟩,
   ⟨(some 35), .mv (.t 39), [3], none⟩,
   ⟨(some 40), .ext (.t 35) 0, [4], none⟩,
   ⟨(some 41), .ext (.t 35) 1, [4], none⟩,
   ⟨(some 10), .alloc false [(.int Go.IntKind.u32 0), (.int Go.IntKind.u32 0), (.int Go.IntKind.u64 0), (.int Go.IntKind.u64 0), (.int Go.IntKind.u32 0), (.int Go.IntKind.u32 0), (.int Go.IntKind.i64 0), (.int Go.IntKind.i64 0), (.int Go.IntKind.i64 0), (.int Go.IntKind.i64 0), (.int Go.IntKind.i64 0), (.int Go.IntKind.i64 0), (.int Go.IntKind.i64 0), (.str []), (.str []), (.str []), (.str []), (.int Go.IntKind.i64 0), (.int Go.IntKind.i64 0), .nils], [], none⟩,
   ⟨none, .store 20 (.t 10) (.t 40), [7, 5, 3, 0, 1, 2, 3, 4, 5, 7], none⟩,
   ⟨(some 11), .asg (.t 41), [6, 8, 0, 1, 2, 3, 4, 5, 6, 7, 8], none⟩]
def vf6r7 : List VOper :=
  [⟨(some 42), .mv (.t 5), [], none⟩,
   ⟨(some 43), .bin Go.BinOp.eql .no (.t 42) (.c (.p (.int Go.IntKind.i64 11))), [0], none⟩,
   ⟨(some 44), .mv (.t 43), [1], none⟩,
   ⟨(some 45), .mv (.t 7), [2], (some (2, true))⟩,
   ⟨(some 46), .un Go.UnOp.not (.t 45), [3, 2], (some (2, true))⟩,
   ⟨(some 47), .pick (.t 44) (.t 46) (.c (.p (.bool false))), [2, 4], none⟩,
   ⟨(some 48), .mv (.t 47), [5, 2], none⟩,
   ⟨(some 49), .mv (.t 9), [6], (some (6, true))⟩,
   ⟨(some 50), .un Go.UnOp.not (.t 49), [7, 6], (some (6, true))⟩,
   ⟨(some 51), .pick (.t 48) (.t 50) (.c (.p (.bool false))), [6, 8], none⟩,
   ⟨(some 52), .mv (.t 51), [9, 6], none⟩,
   ⟨(some 53), .mv (.t 11), [10], (some (10, true))⟩,
   ⟨(some 54), .un Go.UnOp.not (.t 53), [11, 10], (some (10, true))⟩,
   ⟨(some 55), .pick (.t 52) (.t 54) (.c (.p (.bool false))), [10, 12], none⟩,
   ⟨(some 56), .mv (.t 55), [13, 10], none⟩,
   ⟨(some 57), .mv (.t 3), [14], (some (14, true))⟩,
   ⟨(some 58), .faddr 1 (.t 1), [14], (some (14, true))⟩,
   ⟨(some 59), .load none (.t 58), [16, 14], (some (14, true))⟩,
   ⟨(some 60), .call 23 [(.t 57), (.t 59)], [15, 17, 14, 14], (some (14, true))⟩,
   ⟨(some 61), .len false (.t 60), [18, 14], (some (14, true))⟩,
   ⟨(some 62), .bin Go.BinOp.eql .no (.t 61) (.c (.p (.int Go.IntKind.i64 0))), [19, 14], (some (14, true))⟩,
   ⟨(some 63), .pick (.t 56) (.t 62) (.c (.p (.bool false))), [14, 20], none⟩,
   ⟨(some 64), .mv (.t 63), [21, 18], none⟩,
   ⟨(some 65), .mv (.t 3), [22], (some (22, true))⟩,
   ⟨(some 66), .call 11 [(.t 65)], [23, 22, 22], (some (22, true))⟩,
   ⟨(some 67), .len false (.t 66), [24, 22], (some (22, true))⟩,
   ⟨(some 68), .bin Go.BinOp.eql .no (.t 67) (.c (.p (.int Go.IntKind.i64 0))), [25, 22], (some (22, true))⟩,
   ⟨(some 69), .pick (.t 64) (.t 68) (.c (.p (.bool false))), [22, 26], none⟩,
   ⟨(some 70), .mv (.t 69), [27, 24], none⟩,
   ⟨(some 71), .mv (.t 3), [28], (some (28, true))⟩,
   ⟨(some 72), .call 12 [(.t 71)], [29, 28, 28], (some (28, true))⟩,
   ⟨(some 73), .bin Go.BinOp.eql .no (.t 72) (.c (.p (.int Go.IntKind.u32 0))), [30, 28], (some (28, true))⟩,
   ⟨(some 74), .pick (.t 70) (.t 73) (.c (.p (.bool false))), [28, 31], none⟩,
   ⟨(some 75), .mv (.t 74), [32, 30], none⟩,
   ⟨(some 76), .call 13 [], [33, 33], (some (33, true))⟩,
   ⟨(some 77), .pick (.t 75) (.t 76) (.c (.p (.bool false))), [33, 34], none⟩,
   ⟨(some 2), .asg (.t 77), [35, 34, 0, 1, 2, 3, 4, 5, 6, 7, 8, 9, 10, 11, 12, 13, 14, 15, 16, 17, 18, 19, 20, 21, 22, 23, 24, 25, 26, 27, 28, 29, 30, 31, 32, 33, 34, 35], none⟩]
def vf6 : VFun where
  vars := [0, 45, 46, 49, 50, 53, 54, 57, 58, 59, 60, 61, 62, 65, 66, 67, 68, 71, 72, 73, 76]
  boxes := [1, 4, 6, 8, 10]
  mv := []
  res := [(.t 2)]
  body := (.seq (.region none vf6r0 [1, 3, 7, 9, 11, 27, 34, 41, 45, 46, 49, 50, 53, 54, 57, 58, 59, 60, 61, 62, 65, 66, 67, 68, 71, 72, 73, 76] [1, 3, 7, 9, 11, 27, 34, 41, 45, 46, 49, 50, 53, 54, 57, 58, 59, 60, 61, 62, 65, 66, 67, 68, 71, 72, 73, 76])
 (.seq (.region none vf6r1 [1, 3, 7, 9, 11, 27, 34, 41, 45, 46, 49, 50, 53, 54, 57, 58, 59, 60, 61, 62, 65, 66, 67, 68, 71, 72, 73, 76] [1, 3, 7, 9, 11, 27, 34, 41, 45, 46, 49, 50, 53, 54, 57, 58, 59, 60, 61, 62, 65, 66, 67, 68, 71, 72, 73, 76])
 (.seq (.region none vf6r2 [1, 3, 7, 9, 11, 27, 34, 41, 45, 46, 49, 50, 53, 54, 57, 58, 59, 60, 61, 62, 65, 66, 67, 68, 71, 72, 73, 76] [1, 3, 7, 9, 11, 27, 34, 41, 45, 46, 49, 50, 53, 54, 57, 58, 59, 60, 61, 62, 65, 66, 67, 68, 71, 72, 73, 76])
 (.seq (.region none vf6r3 [1, 3, 5, 7, 9, 11, 20, 27, 34, 41, 45, 46, 49, 50, 53, 54, 57, 58, 59, 60, 61, 62, 65, 66, 67, 68, 71, 72, 73, 76] [1, 3, 5, 7, 9, 11, 20, 27, 34, 41, 45, 46, 49, 50, 53, 54, 57, 58, 59, 60, 61, 62, 65, 66, 67, 68, 71, 72, 73, 76])
 (.seq (.region none vf6r4 [1, 3, 5, 7, 9, 11, 20, 27, 34, 41, 45, 46, 49, 50, 53, 54, 57, 58, 59, 60, 61, 62, 65, 66, 67, 68, 71, 72, 73, 76] [1, 3, 5, 7, 9, 11, 20, 27, 34, 41, 45, 46, 49, 50, 53, 54, 57, 58, 59, 60, 61, 62, 65, 66, 67, 68, 71, 72, 73, 76])
 (.seq (.region none vf6r5 [1, 3, 5, 7, 9, 11, 20, 27, 34, 41, 45, 46, 49, 50, 53, 54, 57, 58, 59, 60, 61, 62, 65, 66, 67, 68, 71, 72, 73, 76] [1, 3, 5, 7, 9, 11, 20, 27, 34, 41, 45, 46, 49, 50, 53, 54, 57, 58, 59, 60, 61, 62, 65, 66, 67, 68, 71, 72, 73, 76])
 (.seq (.region none vf6r6 [1, 3, 5, 7, 9, 11, 20, 27, 34, 41, 45, 46, 49, 50, 53, 54, 57, 58, 59, 60, 61, 62, 65, 66, 67, 68, 71, 72, 73, 76] [1, 3, 5, 7, 9, 11, 20, 27, 34, 41, 45, 46, 49, 50, 53, 54, 57, 58, 59, 60, 61, 62, 65, 66, 67, 68, 71, 72, 73, 76])
 (.seq (.region none vf6r7 [2, 77] [2, 77])
 .ret))))))))

def vf7r0 : List VOper :=
  [⟨(some 3), .box false 20 (.t 0), [], none⟩,
   ⟨(some 4), .box false 20 (.t 1), [], none⟩,
   ⟨(some 6), .asg (.c (.p (.bool false))), [], none⟩]
def vf7r1 : List VOper :=
  [⟨(some 8), .load (some 20) (.t 3), [], none⟩,
   ⟨(some 9), .call 18 [(.t 8)], [0], none⟩,
   ⟨(some 10), .load (some 20) (.t 4), [], none⟩,
   ⟨(some 11), .call 18 [(.t 10)], [2, 1], none⟩,
   ⟨none, .store 20 (.t 3) (.t 9), [1, 3, 0, 1], none⟩,
   ⟨none, .store 20 (.t 4) (.t 11), [3, 4, 0, 1, 2, 3, 4], none⟩]
def vf7r2 : List VOper :=
  [⟨(some 12), .load (some 20) (.t 3), [], none⟩,
   ⟨(some 13), .call 20 [(.t 12)], [0], none⟩,
   ⟨(some 14), .mv (.t 2), [], none⟩,
   ⟨(some 15), .call 25 [(.t 13), (.t 14)], [1, 2, 1], none⟩,
   ⟨(some 16), .call 24 [(.t 15)], [3, 3], none⟩,
   ⟨(some 7), .alloc false [(.int Go.IntKind.i64 0), (.int Go.IntKind.i64 0), (.int Go.IntKind.u32 0), (.int Go.IntKind.u32 0), (.int Go.IntKind.i64 0), (.int Go.IntKind.i64 0), (.str []), (.str []), (.int Go.IntKind.u64 0), (.int Go.IntKind.u64 0), (.int Go.IntKind.u64 0), (.int Go.IntKind.u32 0), (.int Go.IntKind.i64 0), (.int Go.IntKind.i64 0), (.int Go.IntKind.i64 0), (.int Go.IntKind.i64 0), (.int Go.IntKind.i64 0), (.str []), (.str []), (.str []), (.str []), (.int Go.IntKind.u64 0), (.int Go.IntKind.u64 0), (.int Go.IntKind.u32 0), (.int Go.IntKind.u32 0), (.int Go.IntKind.i64 0), (.int Go.IntKind.i64 0), (.int Go.IntKind.i64 0), .nils], [], none⟩,
   ⟨none, .store 29 (.t 7) (.t 16), [5, 4, 4, 0, 1, 2, 3, 4, 5], none⟩]
def vf7r3 : List VOper :=
  [⟨(some 17), .load (some 29) (.t 7), [], none⟩,
   ⟨(some 18), .load (some 20) (.t 3), [], none⟩,
   ⟨(some 19), .mv (.t 2), [], none⟩,
   ⟨(some 20), .call 27 [(.t 18), (.t 19)], [1, 2], none⟩,
   ⟨(some 21), .call 26 [(.t 17), (.t 20)], [0, 3, 3], none⟩,
   ⟨(some 22), .mv (.t 21), [4, 4], none⟩,
   ⟨(some 23), .load (some 20) (.t 3), [5], (some (5, true))⟩,
   ⟨(some 24), .call 20 [(.t 23)], [6, 5, 5], (some (5, true))⟩,
   ⟨(some 25), .load (some 20) (.t 4), [5], (some (5, true))⟩,
   ⟨(some 26), .call 20 [(.t 25)], [8, 7, 5], (some (5, true))⟩,
   ⟨(some 27), .call 28 [(.t 24), (.t 26)], [7, 9, 9, 5], (some (5, true))⟩,
   ⟨(some 28), .load (some 20) (.t 3), [5], (some (5, true))⟩,
   ⟨(some 29), .load (some 20) (.t 4), [5], (some (5, true))⟩,
   ⟨(some 30), .call 29 [(.t 28), (.t 29)], [11, 12, 10, 5], (some (5, true))⟩,
   ⟨(some 31), .bin Go.BinOp.eql .bool (.t 27) (.t 30), [10, 13, 5], (some (5, true))⟩,
   ⟨(some 32), .pick (.t 22) (.t 31) (.c (.p (.bool false))), [5, 14], none⟩,
   ⟨(some 33), .mv (.t 32), [15, 13], none⟩,
   ⟨(some 34), .load (some 20) (.t 3), [16], (some (16, true))⟩,
   ⟨(some 35), .call 20 [(.t 34)], [17, 16, 16], (some (16, true))⟩,
   ⟨(some 36), .load (some 20) (.t 3), [16], (some (16, true))⟩,
   ⟨(some 37), .call 20 [(.t 36)], [19, 18, 16], (some (16, true))⟩,
   ⟨(some 38), .call 28 [(.t 35), (.t 37)], [18, 20, 20, 16], (some (16, true))⟩,
   ⟨(some 39), .pick (.t 33) (.t 38) (.c (.p (.bool false))), [16, 21], none⟩,
   ⟨(some 40), .mv (.t 39), [22, 21], none⟩,
   ⟨(some 41), .call 13 [], [23, 23], (some (23, true))⟩,
   ⟨(some 42), .pick (.t 40) (.t 41) (.c (.p (.bool false))), [23, 24], none⟩,
   ⟨(some 6), .asg (.t 42), [25, 24, 0, 1, 2, 3, 4, 5, 6, 7, 8, 9, 10, 11, 12, 13, 14, 15, 16, 17, 18, 19, 20, 21, 22, 23, 24, 25], none⟩]
def vf7 : VFun where
  vars := [0, 1, 2, 23, 24, 25, 26, 27, 28, 29, 30, 31, 34, 35, 36, 37, 38, 41]
  boxes := [3, 4, 7]
  mv := []
  res := [(.t 6)]
  body := (.seq (.region none vf7r0 [2, 3, 4, 23, 24, 25, 26, 27, 28, 29, 30, 31, 34, 35, 36, 37, 38, 41] [2, 3, 4, 23, 24, 25, 26, 27, 28, 29, 30, 31, 34, 35, 36, 37, 38, 41])
 (.seq (.region (some ([1, 3, 4, 5], (.one 0 (.alt 1 (.one 2 (.one 3 (.one 4 (.one 5 .fin)))) (.alt 2 (.one 1 (.one 3 (.one 4 (.one 5 .fin)))) .fin))))) vf7r1 [2, 3, 4, 23, 24, 25, 26, 27, 28, 29, 30, 31, 34, 35, 36, 37, 38, 41] [2, 3, 4, 23, 24, 25, 26, 27, 28, 29, 30, 31, 34, 35, 36, 37, 38, 41])
 (.seq (.region none vf7r2 [2, 3, 4, 7, 23, 24, 25, 26, 27, 28, 29, 30, 31, 34, 35, 36, 37, 38, 41] [2, 3, 4, 7, 23, 24, 25, 26, 27, 28, 29, 30, 31, 34, 35, 36, 37, 38, 41])
 (.seq (.region (some ([26], (.one 0 (.one 1 (.one 2 (.one 3 (.one 4 (.one 5 (.one 6 (.one 7 (.one 8 (.one 9 (.one 10 (.one 11 (.one 12 (.one 13 (.one 14 (.one 15 (.one 16 (.one 17 (.one 18 (.one 19 (.one 20 (.one 21 (.one 22 (.one 23 (.one 24 (.one 25 (.one 26 .fin))))))))))))))))))))))))))))) vf7r3 [6, 42] [6, 42])
 .ret))))

def vf8r0 : List VOper :=
  [⟨(some 2), .asg (.c .nilp), [], none⟩]
def vf8r1 : List VOper :=
  [⟨(some 3), .mv (.t 0), [], none⟩,
   ⟨(some 4), .mnmx true [(.t 3), (.c (.p (.int Go.IntKind.i64 1)))], [0], none⟩,
   ⟨(some 5), .mnmx false [(.t 4), (.c (.p (.int Go.IntKind.i64 1024)))], [1], none⟩,
   ⟨(some 6), .call 30 [(.t 5)], [2], none⟩,
   ⟨(some 7), .build [(.p (.int Go.IntKind.u32 0)), (.p (.int Go.IntKind.u32 0)), .nilp] [(2, 1, (.t 6))], [3], none⟩,
   ⟨(some 8), .box true 3 (.t 7), [4], none⟩,
   ⟨(some 2), .asg (.t 8), [5, 3, 0, 1, 2, 3, 4, 5], none⟩]
def vf8 : VFun where
  vars := [0]
  boxes := []
  mv := []
  res := [(.t 2)]
  body := (.seq (.region none vf8r0 [0] [0])
 (.seq (.region none vf8r1 [2, 8] [2, 8])
 .ret))

def vf9r0 : List VOper :=
  [⟨(some 2), .asg (.c .nilp), [], none⟩]
def vf9r1 : List VOper :=
  [⟨(some 3), .mv (.t 0), [], none⟩,
   ⟨(some 4), .bin Go.BinOp.lss .no (.t 3) (.c (.p (.int Go.IntKind.i64 1))), [0], none⟩]
def vf9r2 : List VOper :=
  [⟨(some 0), .asg (.c (.p (.int Go.IntKind.i64 1))), [], none⟩]
def vf9r3 : List VOper :=
  [⟨(some 5), .mv (.t 0), [], none⟩,
   ⟨(some 6), .bin Go.BinOp.gtr .no (.t 5) (.c (.p (.int Go.IntKind.i64 1024))), [0], none⟩]
def vf9r4 : List VOper :=
  [⟨(some 0), .asg (.c (.p (.int Go.IntKind.i64 1024))), [], none⟩]
def vf9r5 : List VOper :=
  [⟨(some 7), .mv (.t 0), [], none⟩,
   ⟨(some 8), .build [(.p (.int Go.IntKind.u32 0)), (.p (.int Go.IntKind.u32 0)), (.p .nils), (.p (.int Go.IntKind.i64 0))] [(3, 1, (.t 7))], [0], none⟩,
   ⟨(some 9), .box true 4 (.t 8), [1], none⟩,
   ⟨(some 2), .asg (.t 9), [2, 0, 1, 2], none⟩]
def vf9 : VFun where
  vars := [0]
  boxes := []
  mv := []
  res := [(.t 2)]
  body := (.seq (.region none vf9r0 [0] [0])
 (.seq (.seq (.region none vf9r1 [0, 4] [0, 4])
 (.cond (.t 4) (.region none vf9r2 [0] [0])
 .skip))
 (.seq (.seq (.region none vf9r3 [0, 6] [0, 6])
 (.cond (.t 6) (.region none vf9r4 [0] [0])
 .skip))
 (.seq (.region none vf9r5 [2, 9] [2, 9])
 .ret))))

def vf10r0 : List VOper :=
  [⟨(some 5), .box false 21 (.t 2), [], none⟩,
   ⟨(some 6), .asg (.c (.p (.bool false))), [], none⟩]
def vf10r1 : List VOper :=
  [⟨(some 12), .faddr 1 (.t 5), [], none⟩,
   ⟨(some 13), .load (some 20) (.t 12), [0], none⟩,
   ⟨(some 14), .call 18 [(.t 13)], [1], none⟩,
   ⟨(some 7), .alloc false [(.int Go.IntKind.u32 0), (.int Go.IntKind.u32 0), (.int Go.IntKind.u64 0), (.int Go.IntKind.u64 0), (.int Go.IntKind.u32 0), (.int Go.IntKind.u32 0), (.int Go.IntKind.i64 0), (.int Go.IntKind.i64 0), (.int Go.IntKind.i64 0), (.int Go.IntKind.i64 0), (.int Go.IntKind.i64 0), (.int Go.IntKind.i64 0), (.int Go.IntKind.i64 0), (.str []), (.str []), (.str []), (.str []), (.int Go.IntKind.i64 0), (.int Go.IntKind.i64 0), .nils], [], none⟩,
   ⟨none, .store 20 (.t 7) (.t 14), [3, 2, 2, 0, 1, 2, 3], none⟩]
def vf10r2 : List VOper :=
  [⟨(some 15), .faddr 0 (.t 5), [], none⟩,
   ⟨(some 16), .load none (.t 15), [0], none⟩]
def vf10r3 : List VOper :=
  [⟨(some 18), .bin Go.BinOp.eql .no (.t 16) (.c (.p (.int Go.IntKind.i64 0))), [], none⟩,
   ⟨(some 17), .asg (.t 18), [0], none⟩]
def vf10r4 : List VOper :=
  [⟨(some 19), .mv (.t 0), [], none⟩,
   ⟨(some 20), .faddr 1 (.t 7), [], none⟩,
   ⟨(some 21), .load none (.t 20), [1], none⟩,
   ⟨(some 22), .call 23 [(.t 19), (.t 21)], [0, 2], none⟩,
   ⟨(some 23), .call 15 [(.t 22)], [3, 3], none⟩,
   ⟨(some 24), .mv (.t 1), [], none⟩,
   ⟨(some 25), .faddr 1 (.t 7), [], none⟩,
   ⟨(some 26), .load none (.t 25), [6], none⟩,
   ⟨(some 27), .call 32 [(.t 24), (.t 26)], [5, 7, 4], none⟩,
   ⟨(some 28), .call 31 [(.t 23), (.t 27)], [4, 8, 8], none⟩,
   ⟨(some 6), .asg (.t 28), [9, 9, 0, 1, 2, 3, 4, 5, 6, 7, 8, 9], none⟩]
def vf10r5 : List VOper :=
  [⟨(some 30), .bin Go.BinOp.eql .no (.t 16) (.c (.p (.int Go.IntKind.i64 1))), [], none⟩,
   ⟨(some 29), .asg (.t 30), [0], none⟩]
def vf10r6 : List VOper :=
  [⟨(some 31), .bin Go.BinOp.eql .no (.t 16) (.c (.p (.int Go.IntKind.i64 2))), [], none⟩,
   ⟨(some 29), .asg (.t 31), [0], none⟩]
def vf10r7 : List VOper :=
  [⟨(some 32), .bin Go.BinOp.eql .no (.t 16) (.c (.p (.int Go.IntKind.i64 3))), [], none⟩,
   ⟨(some 29), .asg (.t 32), [0], none⟩]
def vf10r8 : List VOper :=
  [⟨(some 33), .bin Go.BinOp.eql .no (.t 16) (.c (.p (.int Go.IntKind.i64 4))), [], none⟩,
   ⟨(some 29), .asg (.t 33), [0], none⟩]
def vf10r9 : List VOper :=
  [⟨(some 34), .faddr 0 (.t 5), [], none⟩,
   ⟨(some 35), .load none (.t 34), [0], none⟩,
   ⟨(some 36), .bin Go.BinOp.eql .no (.t 35) (.c (.p (.int Go.IntKind.i64 4))), [1], none⟩]
def vf10r10 : List VOper :=
  [⟨(some 37), .mv (.t 1), [], none⟩,
   ⟨(some 38), .nilck (.t 37), [0], none⟩,
   ⟨(some 39), .faddr 0 (.t 38), [1], none⟩,
   ⟨(some 40), .load none (.t 39), [2], none⟩,
   ⟨(some 41), .faddr 1 (.t 7), [0, 1, 2, 3], none⟩,
   ⟨none, .store 1 (.t 41) (.t 40), [4, 3, 0, 1, 2, 3], none⟩]
def vf10r11 : List VOper :=
  [⟨(some 43), .mv (.t 0), [], none⟩,
   ⟨(some 44), .load (some 20) (.t 7), [], none⟩,
   ⟨(some 45), .call 20 [(.t 44)], [1], none⟩,
   ⟨(some 46), .call 19 [(.t 43), (.t 45)], [0, 2, 2], none⟩,
   ⟨(some 42), .mv (.t 46), [3], none⟩,
   ⟨(some 47), .ext (.t 42) 0, [4], none⟩,
   ⟨(some 48), .ext (.t 42) 1, [4], none⟩,
   ⟨(some 8), .alloc false [(.int Go.IntKind.u32 0), (.int Go.IntKind.u32 0), (.int Go.IntKind.u64 0), (.int Go.IntKind.u64 0), (.int Go.IntKind.u32 0), (.int Go.IntKind.u32 0), (.int Go.IntKind.i64 0), (.int Go.IntKind.i64 0), (.int Go.IntKind.i64 0), (.int Go.IntKind.i64 0), (.int Go.IntKind.i64 0), (.int Go.IntKind.i64 0), (.int Go.IntKind.i64 0), (.str []), (.str []), (.str []), (.str []), (.int Go.IntKind.i64 0), (.int Go.IntKind.i64 0), .nils], [], none⟩,
   ⟨none, .store 20 (.t 8) (.t 47), [7, 5, 3, 0, 1, 2, 3, 4, 5, 7], none⟩,
   ⟨(some 9), .asg (.t 48), [6, 8, 0, 1, 2, 3, 4, 5, 6, 7, 8], none⟩]
def vf10r12 : List VOper :=
  [⟨(some 50), .mv (.t 1), [], none⟩,
   ⟨(some 51), .load (some 20) (.t 7), [], none⟩,
   ⟨(some 52), .call 33 [(.t 50), (.t 51)], [0, 1], none⟩,
   ⟨(some 49), .mv (.t 52), [2], none⟩,
   ⟨(some 53), .ext (.t 49) 0, [3], none⟩,
   ⟨(some 54), .ext (.t 49) 1, [3], none⟩,
   ⟨(some 10), .alloc false [(.int Go.IntKind.u32 0), (.int Go.IntKind.u32 0), (.int Go.IntKind.u64 0), (.int Go.IntKind.u64 0), (.int Go.IntKind.u32 0), (.int Go.IntKind.u32 0), (.int Go.IntKind.i64 0), (.int Go.IntKind.i64 0), (.int Go.IntKind.i64 0), (.int Go.IntKind.i64 0), (.int Go.IntKind.i64 0), (.int Go.IntKind.i64 0), (.int Go.IntKind.i64 0), (.str []), (.str []), (.str []), (.str []), (.int Go.IntKind.i64 0), (.int Go.IntKind.i64 0), .nils], [], none⟩,
   ⟨none, .store 20 (.t 10) (.t 53), [6, 4, 2, 0, 1, 2, 3, 4, 6], none⟩,
   ⟨(some 11), .asg (.t 54), [5, 7, 0, 1, 2, 3, 4, 5, 6, 7], none⟩]
def vf10r13 : List VOper :=
  [⟨(some 55), .mv (.t 9), [], none⟩,
   ⟨(some 56), .mv (.t 11), [], none⟩,
   ⟨(some 57), .bin Go.BinOp.eql .no (.t 55) (.t 56), [0, 1], none⟩,
   ⟨(some 58), .mv (.t 57), [2], none⟩,
   ⟨(some 59), .load (some 20) (.t 8), [3], (some (3, true))⟩,
   ⟨(some 60), .call 34 [(.t 59)], [4, 3, 3], (some (3, true))⟩,
   ⟨(some 61), .load (some 20) (.t 10), [3], (some (3, true))⟩,
   ⟨(some 62), .call 29 [(.t 60), (.t 61)], [5, 6, 5, 3], (some (3, true))⟩,
   ⟨(some 63), .pick (.t 58) (.t 62) (.c (.p (.bool false))), [3, 7], none⟩,
   ⟨(some 6), .asg (.t 63), [8, 7, 0, 1, 2, 3, 4, 5, 6, 7, 8], none⟩]
def vf10r14 : List VOper :=
  [⟨(some 6), .asg (.c (.p (.bool true))), [], none⟩]
def vf10 : VFun where
  vars := [0, 1, 2, 59, 60, 61, 62]
  boxes := [5, 7, 8, 10]
  mv := []
  res := [(.t 6)]
  body := (.seq (.region none vf10r0 [0, 1, 5, 59, 60, 61, 62] [0, 1, 5, 59, 60, 61, 62])
 (.seq (.region none vf10r1 [0, 1, 5, 7, 59, 60, 61, 62] [0, 1, 5, 7, 59, 60, 61, 62])
 (.seq (.seq (.region none vf10r2 [0, 1, 5, 7, 16, 59, 60, 61, 62] [0, 1, 5, 7, 16, 59, 60, 61, 62])
 (.block 0 (.seq (.region none vf10r3 [0, 1, 5, 7, 16, 17, 18, 59, 60, 61, 62] [0, 1, 5, 7, 16, 17, 18, 59, 60, 61, 62])
 (.cond (.t 17) (.seq (.region (some ([3, 8, 10], (.one 0 (.one 1 (.one 2 (.alt 3 (.one 4 (.one 5 (.one 6 (.one 7 (.one 8 (.one 9 (.one 10 .fin))))))) (.alt 5 (.alt 3 (.one 4 (.one 6 (.one 7 (.one 8 (.one 9 (.one 10 .fin)))))) (.alt 6 (.alt 3 (.one 4 (.one 7 (.one 8 (.one 9 (.one 10 .fin))))) (.alt 7 (.one 3 (.one 4 (.one 8 (.one 9 (.one 10 .fin))))) .fin)) .fin)) (.alt 6 (.alt 3 (.one 4 (.one 5 (.one 7 (.one 8 (.one 9 (.one 10 .fin)))))) (.alt 5 (.alt 3 (.one 4 (.one 7 (.one 8 (.one 9 (.one 10 .fin))))) (.alt 7 (.one 3 (.one 4 (.one 8 (.one 9 (.one 10 .fin))))) .fin)) (.alt 7 (.alt 3 (.one 4 (.one 5 (.one 8 (.one 9 (.one 10 .fin))))) (.alt 5 (.one 3 (.one 4 (.one 8 (.one 9 (.one 10 .fin))))) .fin)) .fin))) .fin)))))))) vf10r4 [6, 28, 63] [6, 28, 63])
 .ret)
 (.seq (.seq (.region none vf10r5 [0, 1, 5, 7, 16, 29, 30, 31, 32, 33, 59, 60, 61, 62] [0, 1, 5, 7, 16, 29, 30, 31, 32, 33, 59, 60, 61, 62])
 (.cond (.t 29) .skip
 (.seq (.region none vf10r6 [0, 1, 5, 7, 16, 29, 30, 31, 32, 33, 59, 60, 61, 62] [0, 1, 5, 7, 16, 29, 30, 31, 32, 33, 59, 60, 61, 62])
 (.cond (.t 29) .skip
 (.seq (.region none vf10r7 [0, 1, 5, 7, 16, 29, 30, 31, 32, 33, 59, 60, 61, 62] [0, 1, 5, 7, 16, 29, 30, 31, 32, 33, 59, 60, 61, 62])
 (.cond (.t 29) .skip
 (.region none vf10r8 [0, 1, 5, 7, 29, 30, 31, 32, 33, 59, 60, 61, 62] [0, 1, 5, 7, 29, 30, 31, 32, 33, 59, 60, 61, 62])))))))
 (.cond (.t 29) (.seq (.seq (.region none vf10r9 [0, 1, 7, 36, 59, 60, 61, 62] [0, 1, 7, 36, 59, 60, 61, 62])
 (.cond (.t 36) (.region none vf10r10 [0, 1, 7, 59, 60, 61, 62] [0, 1, 7, 59, 60, 61, 62])
 .skip))
 (.seq (.region none vf10r11 [1, 7, 8, 9, 48, 59, 60, 61, 62] [1, 7, 8, 9, 48, 59, 60, 61, 62])
 (.seq (.region none vf10r12 [8, 9, 10, 11, 48, 54, 59, 60, 61, 62] [8, 9, 10, 11, 48, 54, 59, 60, 61, 62])
 (.seq (.region (some ([9], (.one 0 (.one 1 (.one 2 (.one 3 (.one 4 (.one 5 (.one 6 (.one 7 (.one 8 (.one 9 .fin)))))))))))) vf10r13 [6, 28, 63] [6, 28, 63])
 .ret))))
 .skip))))))
 (.seq (.region none vf10r14 [6, 28, 63] [6, 28, 63])
 .ret))))

def vf11r0 : List VOper :=
  [⟨(some 2), .asg (.c (.p .nils)), [], none⟩]
def vf11r1 : List VOper :=
  [⟨(some 6), .mv (.t 0), [], none⟩,
   ⟨(some 7), .bin Go.BinOp.eql .ptr (.t 6) (.c .nilp), [0], none⟩]
def vf11r2 : List VOper :=
  [⟨(some 2), .asg (.c (.p .nils)), [], none⟩]
def vf11r3 : List VOper :=
  [⟨(some 8), .mv (.t 0), [], none⟩,
   ⟨(some 9), .nilck (.t 8), [0], none⟩,
   ⟨(some 10), .faddr 2 (.t 9), [1], none⟩,
   ⟨(some 11), .load none (.t 10), [2], none⟩,
   ⟨(some 12), .call 35 [(.t 11)], [3], none⟩,
   ⟨(some 3), .asg (.t 12), [4, 4, 0, 1, 2, 3, 4], none⟩]
def vf11r4 : List VOper :=
  [⟨(some 13), .mv (.t 3), [], none⟩,
   ⟨(some 14), .len false (.t 13), [0], none⟩,
   ⟨(some 15), .mv (.c (.p (.int Go.IntKind.i64 0))), [], none⟩]
def vf11r5 : List VOper :=
  [⟨(some 16), .bin Go.BinOp.lss .no (.t 15) (.t 14), [], none⟩]
def vf11r6 : List VOper :=
  [⟨(some 17), .mv (.t 15), [], none⟩,
   ⟨(some 18), .iaddrS 20 (.t 13) (.t 15), [], none⟩,
   ⟨(some 19), .load (some 20) (.t 18), [1], none⟩,
   ⟨(some 5), .alloc false [(.int Go.IntKind.u32 0), (.int Go.IntKind.u32 0), (.int Go.IntKind.u64 0), (.int Go.IntKind.u64 0), (.int Go.IntKind.u32 0), (.int Go.IntKind.u32 0), (.int Go.IntKind.i64 0), (.int Go.IntKind.i64 0), (.int Go.IntKind.i64 0), (.int Go.IntKind.i64 0), (.int Go.IntKind.i64 0), (.int Go.IntKind.i64 0), (.int Go.IntKind.i64 0), (.str []), (.str []), (.str []), (.str []), (.int Go.IntKind.i64 0), (.int Go.IntKind.i64 0), .nils], [], none⟩,
   ⟨(some 4), .asg (.t 17), [0, 0, 1, 2, 3], none⟩,
   ⟨none, .store 20 (.t 5) (.t 19), [3, 2, 4, 0, 1, 2, 3, 4], none⟩]
def vf11r7 : List VOper :=
  [⟨(some 20), .mv (.t 3), [], none⟩,
   ⟨(some 21), .mv (.t 4), [], none⟩,
   ⟨(some 22), .load (some 20) (.t 5), [], none⟩,
   ⟨(some 23), .call 36 [(.t 22)], [2], none⟩,
   ⟨(some 24), .iaddrS 20 (.t 20) (.t 21), [0, 1, 0, 1, 2, 3], none⟩,
   ⟨none, .store 20 (.t 24) (.t 23), [4, 3, 3, 0, 1, 2, 3], none⟩]
def vf11r8 : List VOper :=
  [⟨(some 25), .bin Go.BinOp.add .no (.t 15) (.c (.p (.int Go.IntKind.i64 1))), [], none⟩,
   ⟨(some 15), .mv (.t 25), [0], none⟩]
def vf11r9 : List VOper :=
  [⟨(some 26), .mv (.t 3), [], none⟩,
   ⟨(some 2), .asg (.t 26), [0, 0], none⟩]
def vf11 : VFun where
  vars := [0]
  boxes := [5]
  mv := []
  res := [(.t 2)]
  body := (.seq (.region none vf11r0 [0] [0])
 (.seq (.seq (.region none vf11r1 [0, 7] [0, 7])
 (.cond (.t 7) (.seq (.region none vf11r2 [2, 3, 12, 26] [2, 3, 12, 26])
 .ret)
 .skip))
 (.seq (.region none vf11r3 [3, 12] [3, 12])
 (.seq (.seq (.region none vf11r4 [3, 12, 13, 14, 15, 25] [3, 12, 13, 14, 15, 25])
 (.block 0 (.loop (.seq (.region none vf11r5 [3, 12, 13, 14, 15, 16, 25] [3, 12, 13, 14, 15, 16, 25])
 (.seq (.cond (.t 16) .skip
 (.exit 0))
 (.seq (.block 1 (.seq (.region none vf11r6 [3, 4, 5, 12, 13, 14, 15, 17, 25] [3, 4, 5, 12, 13, 14, 15, 17, 25])
 (.region none vf11r7 [3, 12, 13, 14, 15, 25] [3, 12, 13, 14, 15, 25])))
 (.region none vf11r8 [3, 12, 13, 14, 15, 25] [3, 12, 13, 14, 15, 25])))))))
 (.seq (.region none vf11r9 [2, 3, 12, 26] [2, 3, 12, 26])
 .ret)))))

def vf12r0 : List VOper :=
  [⟨(some 2), .asg (.c (.p (.int Go.IntKind.u32 0))), [], none⟩]
def vf12r1 : List VOper :=
  [⟨(some 3), .mv (.t 0), [], none⟩,
   ⟨(some 4), .bin Go.BinOp.eql .ptr (.t 3) (.c .nilp), [0], none⟩]
def vf12r2 : List VOper :=
  [⟨(some 2), .asg (.c (.p (.int Go.IntKind.u32 0))), [], none⟩]
def vf12r3 : List VOper :=
  [⟨(some 5), .mv (.t 0), [], none⟩,
   ⟨(some 6), .nilck (.t 5), [0], none⟩,
   ⟨(some 7), .faddr 0 (.t 6), [1], none⟩,
   ⟨(some 8), .load none (.t 7), [2], none⟩,
   ⟨(some 2), .asg (.t 8), [3, 0, 1, 2, 3], none⟩]
def vf12 : VFun where
  vars := [0]
  boxes := []
  mv := []
  res := [(.t 2)]
  body := (.seq (.region none vf12r0 [0] [0])
 (.seq (.seq (.region none vf12r1 [0, 4] [0, 4])
 (.cond (.t 4) (.seq (.region none vf12r2 [2, 8] [2, 8])
 .ret)
 .skip))
 (.seq (.region none vf12r3 [2, 8] [2, 8])
 .ret)))

def vf13r0 : List VOper :=
  [⟨(some 0), .asg (.c (.p (.bool false))), [], none⟩]
def vf13r1 : List VOper :=
  [⟨(some 7), .call 8 [(.c (.p (.int Go.IntKind.i64 4)))], [], none⟩,
   ⟨(some 1), .asg (.t 7), [0, 0, 0], none⟩]
def vf13r2 : List VOper :=
  [⟨(some 8), .mv (.t 1), [], none⟩,
   ⟨(some 9), .call 23 [(.t 8), (.c (.p (.int Go.IntKind.u32 1)))], [0], none⟩]
def vf13r3 : List VOper :=
  [⟨(some 11), .mv (.t 1), [], none⟩,
   ⟨(some 12), .call 37 [], [], none⟩,
   ⟨(some 13), .build [(.p (.int Go.IntKind.i64 0)), (.p (.int Go.IntKind.i64 0)), (.p (.int Go.IntKind.i64 0))] [(0, 1, (.c (.p (.int Go.IntKind.i64 1)))), (1, 1, (.c (.p (.int Go.IntKind.i64 1)))), (2, 1, (.c (.p (.int Go.IntKind.i64 2))))], [], none⟩,
   ⟨(some 14), .lit 3 [(.int Go.IntKind.i64 0), (.int Go.IntKind.i64 0), (.int Go.IntKind.i64 0)] 1 [(0, (.t 13))], [2], none⟩,
   ⟨(some 15), .build [(.p (.int Go.IntKind.u32 0)), (.p (.int Go.IntKind.u32 0)), (.p (.int Go.IntKind.u64 0)), (.p (.int Go.IntKind.u64 0)), (.p (.int Go.IntKind.u32 0)), (.p (.int Go.IntKind.u32 0)), (.p (.int Go.IntKind.i64 0)), (.p (.int Go.IntKind.i64 0)), (.p (.int Go.IntKind.i64 0)), (.p (.int Go.IntKind.i64 0)), (.p (.int Go.IntKind.i64 0)), (.p (.int Go.IntKind.i64 0)), (.p (.int Go.IntKind.i64 0)), (.p (.str [])), (.p (.str [])), (.p (.str [])), (.p (.str [])), (.p (.int Go.IntKind.i64 0)), (.p (.int Go.IntKind.i64 0)), (.p .nils)] [(1, 1, (.c (.p (.int Go.IntKind.u32 1)))), (2, 7, (.t 12)), (17, 1, (.c (.p (.int Go.IntKind.i64 3)))), (19, 1, (.t 14))], [1, 3], none⟩,
   ⟨(some 16), .call 19 [(.t 11), (.t 15)], [0, 4, 1], none⟩,
   ⟨(some 10), .mv (.t 16), [5], none⟩,
   ⟨(some 17), .ext (.t 10) 0, [6], none⟩,
   ⟨(some 18), .ext (.t 10) 1, [6], none⟩,
   ⟨(some 2), .alloc false [(.int Go.IntKind.u32 0), (.int Go.IntKind.u32 0), (.int Go.IntKind.u64 0), (.int Go.IntKind.u64 0), (.int Go.IntKind.u32 0), (.int Go.IntKind.u32 0), (.int Go.IntKind.i64 0), (.int Go.IntKind.i64 0), (.int Go.IntKind.i64 0), (.int Go.IntKind.i64 0), (.int Go.IntKind.i64 0), (.int Go.IntKind.i64 0), (.int Go.IntKind.i64 0), (.str []), (.str []), (.str []), (.str []), (.int Go.IntKind.i64 0), (.int Go.IntKind.i64 0), .nils], [], none⟩,
   ⟨none, .store 20 (.t 2) (.t 17), [9, 7, 5, 0, 1, 2, 3, 4, 5, 6, 7, 9], none⟩,
   ⟨(some 3), .asg (.t 18), [8, 10, 0, 1, 2, 3, 4, 5, 6, 7, 8, 9, 10], none⟩]
def vf13r4 : List VOper :=
  [⟨(some 20), .mv (.t 1), [], none⟩,
   ⟨(some 21), .call 37 [], [], none⟩,
   ⟨(some 22), .call 16 [(.t 21)], [1, 1], none⟩,
   ⟨(some 23), .call 14 [(.t 20), (.t 22)], [0, 2, 2], none⟩,
   ⟨(some 19), .mv (.t 23), [3], none⟩,
   ⟨(some 24), .ext (.t 19) 0, [4], none⟩,
   ⟨(some 25), .ext (.t 19) 1, [4], none⟩,
   ⟨(some 4), .alloc false [(.int Go.IntKind.u32 0), (.int Go.IntKind.u32 0), (.int Go.IntKind.u64 0), (.int Go.IntKind.u64 0), (.int Go.IntKind.u32 0), (.int Go.IntKind.u32 0), (.int Go.IntKind.i64 0), (.int Go.IntKind.i64 0), (.int Go.IntKind.i64 0), (.int Go.IntKind.i64 0), (.int Go.IntKind.i64 0), (.int Go.IntKind.i64 0), (.int Go.IntKind.i64 0), (.str []), (.str []), (.str []), (.str []), (.int Go.IntKind.i64 0), (.int Go.IntKind.i64 0), .nils], [], none⟩,
   ⟨none, .store 20 (.t 4) (.t 24), [7, 5, 3, 0, 1, 2, 3, 4, 5, 7], none⟩,
   ⟨(some 5), .asg (.t 25), [6, 8, 0, 1, 2, 3, 4, 5, 6, 7, 8], none⟩]
def vf13r5 : List VOper :=
  [⟨(some 26), .mv (.t 1), [], none⟩,
   ⟨(some 27), .call 23 [(.t 26), (.c (.p (.int Go.IntKind.u32 2)))], [0], none⟩,
   ⟨(some 6), .asg (.t 27), [1, 1, 0, 1], none⟩]
def vf13r6 : List VOper :=
  [⟨(some 28), .mv (.t 3), [], none⟩,
   ⟨(some 29), .bin Go.BinOp.eql .no (.t 28) (.c (.p (.int Go.IntKind.i64 0))), [0], none⟩,
   ⟨(some 30), .mv (.t 29), [1], none⟩,
   ⟨(some 31), .faddr 0 (.t 2), [2], (some (2, true))⟩,
   ⟨(some 32), .load none (.t 31), [3, 2], (some (2, true))⟩,
   ⟨(some 33), .bin Go.BinOp.eql .no (.t 32) (.c (.p (.int Go.IntKind.u32 1))), [4, 2], (some (2, true))⟩,
   ⟨(some 34), .pick (.t 30) (.t 33) (.c (.p (.bool false))), [2, 5], none⟩,
   ⟨(some 35), .mv (.t 34), [6, 2], none⟩,
   ⟨(some 36), .mv (.t 5), [7], (some (7, true))⟩,
   ⟨(some 37), .pick (.t 35) (.t 36) (.c (.p (.bool false))), [7, 8], none⟩,
   ⟨(some 38), .mv (.t 37), [9, 7], none⟩,
   ⟨(some 39), .faddr 0 (.t 4), [10], (some (10, true))⟩,
   ⟨(some 40), .load none (.t 39), [11, 10], (some (10, true))⟩,
   ⟨(some 41), .bin Go.BinOp.eql .no (.t 40) (.c (.p (.int Go.IntKind.u32 1))), [12, 10], (some (10, true))⟩,
   ⟨(some 42), .pick (.t 38) (.t 41) (.c (.p (.bool false))), [10, 13], none⟩,
   ⟨(some 43), .mv (.t 42), [14, 10], none⟩,
   ⟨(some 44), .mv (.t 6), [15], (some (15, true))⟩,
   ⟨(some 45), .len false (.t 44), [16, 15], (some (15, true))⟩,
   ⟨(some 46), .bin Go.BinOp.eql .no (.t 45) (.c (.p (.int Go.IntKind.i64 1))), [17, 15], (some (15, true))⟩,
   ⟨(some 47), .pick (.t 43) (.t 46) (.c (.p (.bool false))), [15, 18], none⟩,
   ⟨(some 48), .mv (.t 47), [19, 15], none⟩,
   ⟨(some 49), .mv (.t 1), [20], (some (20, true))⟩,
   ⟨(some 50), .call 11 [(.t 49)], [21, 20, 20], (some (20, true))⟩,
   ⟨(some 51), .len false (.t 50), [22, 20], (some (20, true))⟩,
   ⟨(some 52), .bin Go.BinOp.eql .no (.t 51) (.c (.p (.int Go.IntKind.i64 0))), [23, 20], (some (20, true))⟩,
   ⟨(some 53), .pick (.t 48) (.t 52) (.c (.p (.bool false))), [20, 24], none⟩,
   ⟨(some 54), .mv (.t 53), [25, 22], none⟩,
   ⟨(some 55), .mv (.t 1), [26], (some (26, true))⟩,
   ⟨(some 56), .call 12 [(.t 55)], [27, 26, 26], (some (26, true))⟩,
   ⟨(some 57), .bin Go.BinOp.eql .no (.t 56) (.c (.p (.int Go.IntKind.u32 2))), [28, 26], (some (26, true))⟩,
   ⟨(some 58), .pick (.t 54) (.t 57) (.c (.p (.bool false))), [26, 29], none⟩,
   ⟨(some 0), .asg (.t 58), [30, 28, 0, 1, 2, 3, 4, 5, 6, 7, 8, 9, 10, 11, 12, 13, 14, 15, 16, 17, 18, 19, 20, 21, 22, 23, 24, 25, 26, 27, 28, 29, 30], none⟩]
def vf13 : VFun where
  vars := [31, 32, 33, 36, 39, 40, 41, 44, 45, 46, 49, 50, 51, 52, 55, 56, 57]
  boxes := [2, 4]
  mv := []
  res := [(.t 0)]
  body := (.seq (.region none vf13r0 [1, 5, 6, 7, 25, 27, 31, 32, 33, 36, 39, 40, 41, 44, 45, 46, 49, 50, 51, 52, 55, 56, 57] [1, 5, 6, 7, 25, 27, 31, 32, 33, 36, 39, 40, 41, 44, 45, 46, 49, 50, 51, 52, 55, 56, 57])
 (.seq (.region none vf13r1 [1, 5, 6, 7, 25, 27, 31, 32, 33, 36, 39, 40, 41, 44, 45, 46, 49, 50, 51, 52, 55, 56, 57] [1, 5, 6, 7, 25, 27, 31, 32, 33, 36, 39, 40, 41, 44, 45, 46, 49, 50, 51, 52, 55, 56, 57])
 (.seq (.region none vf13r2 [1, 5, 6, 7, 25, 27, 31, 32, 33, 36, 39, 40, 41, 44, 45, 46, 49, 50, 51, 52, 55, 56, 57] [1, 5, 6, 7, 25, 27, 31, 32, 33, 36, 39, 40, 41, 44, 45, 46, 49, 50, 51, 52, 55, 56, 57])
 (.seq (.region none vf13r3 [1, 2, 3, 5, 6, 7, 18, 25, 27, 31, 32, 33, 36, 39, 40, 41, 44, 45, 46, 49, 50, 51, 52, 55, 56, 57] [1, 2, 3, 5, 6, 7, 18, 25, 27, 31, 32, 33, 36, 39, 40, 41, 44, 45, 46, 49, 50, 51, 52, 55, 56, 57])
 (.seq (.region none vf13r4 [1, 2, 3, 4, 5, 6, 7, 18, 25, 27, 31, 32, 33, 36, 39, 40, 41, 44, 45, 46, 49, 50, 51, 52, 55, 56, 57] [1, 2, 3, 4, 5, 6, 7, 18, 25, 27, 31, 32, 33, 36, 39, 40, 41, 44, 45, 46, 49, 50, 51, 52, 55, 56, 57])
 (.seq (.region none vf13r5 [1, 2, 3, 4, 5, 6, 7, 18, 25, 27, 31, 32, 33, 36, 39, 40, 41, 44, 45, 46, 49, 50, 51, 52, 55, 56, 57] [1, 2, 3, 4, 5, 6, 7, 18, 25, 27, 31, 32, 33, 36, 39, 40, 41, 44, 45, 46, 49, 50, 51, 52, 55, 56, 57])
 (.seq (.region none vf13r6 [0, 58] [0, 58])
 .ret)))))))

def vf14r0 : List VOper :=
  [⟨(some 3), .box false 7 (.t 1), [], none⟩,
   ⟨(some 4), .alloc false [(.int Go.IntKind.u32 0), (.int Go.IntKind.u32 0), (.int Go.IntKind.u64 0), (.int Go.IntKind.u64 0), (.int Go.IntKind.u32 0), (.int Go.IntKind.u32 0), (.int Go.IntKind.i64 0), (.int Go.IntKind.i64 0), (.int Go.IntKind.i64 0), (.int Go.IntKind.i64 0), (.int Go.IntKind.i64 0), (.int Go.IntKind.i64 0), (.int Go.IntKind.i64 0), (.str []), (.str []), (.str []), (.str []), (.int Go.IntKind.i64 0), (.int Go.IntKind.i64 0), .nils], [], none⟩,
   ⟨(some 5), .asg (.c (.p (.bool false))), [], none⟩]
def vf14r1 : List VOper :=
  [⟨(some 9), .mv (.t 0), [], none⟩,
   ⟨(some 10), .load (some 7) (.t 3), [], none⟩,
   ⟨(some 11), .call 38 [(.t 10)], [1], none⟩,
   ⟨(some 12), .call 21 [(.t 9), (.t 11)], [0, 2, 2], none⟩,
   ⟨(some 8), .mv (.t 12), [3], none⟩,
   ⟨(some 13), .ext (.t 8) 0, [4], none⟩,
   ⟨(some 14), .ext (.t 8) 1, [4], none⟩,
   ⟨(some 6), .alloc false [(.int Go.IntKind.u32 0), (.int Go.IntKind.u32 0), (.int Go.IntKind.u64 0), (.int Go.IntKind.u64 0), (.int Go.IntKind.u32 0), (.int Go.IntKind.u32 0), (.int Go.IntKind.i64 0), (.int Go.IntKind.i64 0), (.int Go.IntKind.i64 0), (.int Go.IntKind.i64 0), (.int Go.IntKind.i64 0), (.int Go.IntKind.i64 0), (.int Go.IntKind.i64 0), (.str []), (.str []), (.str []), (.str []), (.int Go.IntKind.i64 0), (.int Go.IntKind.i64 0), .nils], [], none⟩,
   ⟨none, .store 20 (.t 6) (.t 13), [7, 5, 3, 0, 1, 2, 3, 4, 5, 7], none⟩,
   ⟨(some 7), .asg (.t 14), [6, 8, 0, 1, 2, 3, 4, 5, 6, 7, 8], none⟩]
def vf14r2 : List VOper :=
  [⟨(some 15), .mv (.t 7), [], none⟩,
   ⟨(some 16), .un Go.UnOp.not (.t 15), [0], none⟩,
   ⟨(some 17), .mv (.t 16), [1], none⟩,
   ⟨(some 18), .faddr 17 (.t 6), [2], (some (2, false))⟩,
   ⟨(some 19), .load none (.t 18), [3, 2], (some (2, false))⟩,
   ⟨(some 20), .bin Go.BinOp.neq .no (.t 19) (.c (.p (.int Go.IntKind.i64 3))), [4, 2], (some (2, false))⟩,
   ⟨(some 21), .pick (.t 17) (.c (.p (.bool true))) (.t 20), [2, 5], none⟩]
def vf14r3 : List VOper :=
  [⟨(some 22), .build [(.p (.int Go.IntKind.u32 0)), (.p (.int Go.IntKind.u32 0)), (.p (.int Go.IntKind.u64 0)), (.p (.int Go.IntKind.u64 0)), (.p (.int Go.IntKind.u32 0)), (.p (.int Go.IntKind.u32 0)), (.p (.int Go.IntKind.i64 0)), (.p (.int Go.IntKind.i64 0)), (.p (.int Go.IntKind.i64 0)), (.p (.int Go.IntKind.i64 0)), (.p (.int Go.IntKind.i64 0)), (.p (.int Go.IntKind.i64 0)), (.p (.int Go.IntKind.i64 0)), (.p (.str [])), (.p (.str [])), (.p (.str [])), (.p (.str [])), (.p (.int Go.IntKind.i64 0)), (.p (.int Go.IntKind.i64 0)), (.p .nils)] [], [], none⟩,
   ⟨none, .store 20 (.t 4) (.t 22), [0, 0], none⟩,
   ⟨(some 5), .asg (.c (.p (.bool false))), [1, 0, 1], none⟩]
def vf14r4 : List VOper :=
  [⟨(some 23), .load (some 20) (.t 6), [], none⟩,
   ⟨none, .store 20 (.t 4) (.t 23), [0, 0], none⟩,
   ⟨(some 5), .asg (.c (.p (.bool true))), [1, 0, 1], none⟩]
def vf14 : VFun where
  vars := [0, 1, 18, 19, 20]
  boxes := [3, 4, 6]
  mv := []
  res := [(.cell 4 (some 20)), (.t 5)]
  body := (.seq (.region none vf14r0 [0, 3, 4, 18, 19, 20] [0, 3, 4, 18, 19, 20])
 (.seq (.region none vf14r1 [4, 6, 7, 14, 18, 19, 20] [4, 6, 7, 14, 18, 19, 20])
 (.seq (.seq (.region none vf14r2 [4, 6, 21] [4, 6, 21])
 (.cond (.t 21) (.seq (.region none vf14r3 [4, 5] [4, 5])
 .ret)
 .skip))
 (.seq (.region none vf14r4 [4, 5] [4, 5])
 .ret))))

def vf15r0 : List VOper :=
  [⟨(some 2), .asg (.c (.p .nils)), [], none⟩]
def vf15r1 : List VOper :=
  [⟨(some 3), .asg (.c (.p .nils)), [], none⟩]
def vf15r2 : List VOper :=
  [⟨(some 6), .mv (.t 0), [], none⟩,
   ⟨(some 7), .len false (.t 6), [0], none⟩,
   ⟨(some 8), .mv (.c (.p (.int Go.IntKind.i64 0))), [], none⟩]
def vf15r3 : List VOper :=
  [⟨(some 9), .bin Go.BinOp.lss .no (.t 8) (.t 7), [], none⟩]
def vf15r4 : List VOper :=
  [⟨(some 10), .iaddrS 20 (.t 6) (.t 8), [], none⟩,
   ⟨(some 11), .load (some 20) (.t 10), [0], none⟩,
   ⟨(some 5), .alloc false [(.int Go.IntKind.u32 0), (.int Go.IntKind.u32 0), (.int Go.IntKind.u64 0), (.int Go.IntKind.u64 0), (.int Go.IntKind.u32 0), (.int Go.IntKind.u32 0), (.int Go.IntKind.i64 0), (.int Go.IntKind.i64 0), (.int Go.IntKind.i64 0), (.int Go.IntKind.i64 0), (.int Go.IntKind.i64 0), (.int Go.IntKind.i64 0), (.int Go.IntKind.i64 0), (.str []), (.str []), (.str []), (.str []), (.int Go.IntKind.i64 0), (.int Go.IntKind.i64 0), .nils], [], none⟩,
   ⟨none, .store 20 (.t 5) (.t 11), [2, 1, 0, 1, 2], none⟩]
def vf15r5 : List VOper :=
  [⟨(some 12), .mv (.t 3), [], none⟩,
   ⟨(some 13), .load (some 20) (.t 5), [], none⟩,
   ⟨(some 14), .call 34 [(.t 13)], [1], none⟩,
   ⟨(some 15), .lit 20 [(.int Go.IntKind.u32 0), (.int Go.IntKind.u32 0), (.int Go.IntKind.u64 0), (.int Go.IntKind.u64 0), (.int Go.IntKind.u32 0), (.int Go.IntKind.u32 0), (.int Go.IntKind.i64 0), (.int Go.IntKind.i64 0), (.int Go.IntKind.i64 0), (.int Go.IntKind.i64 0), (.int Go.IntKind.i64 0), (.int Go.IntKind.i64 0), (.int Go.IntKind.i64 0), (.str []), (.str []), (.str []), (.str []), (.int Go.IntKind.i64 0), (.int Go.IntKind.i64 0), .nils] 1 [(0, (.t 14))], [2], none⟩,
   ⟨(some 16), .append false 20 192 (.t 12) (.t 15), [0, 3, 2], none⟩,
   ⟨(some 3), .asg (.t 16), [4, 4, 0, 1, 2, 3, 4], none⟩]
def vf15r6 : List VOper :=
  [⟨(some 17), .bin Go.BinOp.add .no (.t 8) (.c (.p (.int Go.IntKind.i64 1))), [], none⟩,
   ⟨(some 8), .mv (.t 17), [0], none⟩]
def vf15r7 : List VOper :=
  [⟨(some 18), .mv (.t 3), [], none⟩,
   ⟨(some 2), .asg (.t 18), [0, 0], none⟩]
def vf15 : VFun where
  vars := [0]
  boxes := [5]
  mv := []
  res := [(.t 2)]
  body := (.seq (.region none vf15r0 [0] [0])
 (.seq (.region none vf15r1 [0, 3, 16] [0, 3, 16])
 (.seq (.seq (.region none vf15r2 [0, 3, 6, 7, 8, 16, 17] [0, 3, 6, 7, 8, 16, 17])
 (.block 0 (.loop (.seq (.region none vf15r3 [0, 3, 6, 7, 8, 9, 16, 17] [0, 3, 6, 7, 8, 9, 16, 17])
 (.seq (.cond (.t 9) .skip
 (.exit 0))
 (.seq (.block 1 (.seq (.region none vf15r4 [0, 3, 5, 6, 7, 8, 16, 17] [0, 3, 5, 6, 7, 8, 16, 17])
 (.region none vf15r5 [0, 3, 6, 7, 8, 16, 17] [0, 3, 6, 7, 8, 16, 17])))
 (.region none vf15r6 [0, 3, 6, 7, 8, 16, 17] [0, 3, 6, 7, 8, 16, 17])))))))
 (.seq (.region none vf15r7 [2, 3, 16, 18] [2, 3, 16, 18])
 .ret))))

def vf16r0 : List VOper :=
  [⟨(some 1), .box false 7 (.t 0), [], none⟩,
   ⟨(some 2), .alloc false [(.int Go.IntKind.u64 0), (.int Go.IntKind.u64 0), (.int Go.IntKind.u32 0), (.int Go.IntKind.u32 0), (.int Go.IntKind.i64 0), (.int Go.IntKind.i64 0), (.int Go.IntKind.i64 0)], [], none⟩]
def vf16r1 : List VOper :=
  [⟨(some 3), .faddr 1 (.t 1), [], none⟩,
   ⟨(some 4), .load none (.t 3), [0], none⟩,
   ⟨(some 5), .faddr 0 (.t 1), [], none⟩,
   ⟨(some 6), .load none (.t 5), [2], none⟩,
   ⟨(some 7), .faddr 3 (.t 1), [], none⟩,
   ⟨(some 8), .load none (.t 7), [4], none⟩,
   ⟨(some 9), .faddr 2 (.t 1), [], none⟩,
   ⟨(some 10), .load none (.t 9), [6], none⟩,
   ⟨(some 11), .faddr 4 (.t 1), [], none⟩,
   ⟨(some 12), .load none (.t 11), [8], none⟩,
   ⟨(some 13), .faddr 6 (.t 1), [], none⟩,
   ⟨(some 14), .load none (.t 13), [10], none⟩,
   ⟨(some 15), .faddr 5 (.t 1), [], none⟩,
   ⟨(some 16), .load none (.t 15), [12], none⟩,
   ⟨(some 17), .build [(.p (.int Go.IntKind.u64 0)), (.p (.int Go.IntKind.u64 0)), (.p (.int Go.IntKind.u32 0)), (.p (.int Go.IntKind.u32 0)), (.p (.int Go.IntKind.i64 0)), (.p (.int Go.IntKind.i64 0)), (.p (.int Go.IntKind.i64 0))] [(0, 1, (.t 4)), (1, 1, (.t 6)), (2, 1, (.t 8)), (3, 1, (.t 10)), (4, 1, (.t 12)), (5, 1, (.t 14)), (6, 1, (.t 16))], [1, 3, 5, 7, 9, 11, 13], none⟩,
   ⟨none, .store 7 (.t 2) (.t 17), [14, 0, 1, 2, 3, 4, 5, 6, 7, 8, 9, 10, 11, 12, 13, 14], none⟩]
def vf16 : VFun where
  vars := [0]
  boxes := [1, 2]
  mv := []
  res := [(.cell 2 (some 7))]
  body := (.seq (.region none vf16r0 [1, 2] [1, 2])
 (.seq (.region none vf16r1 [2] [2])
 .ret))

def vf17r0 : List VOper :=
  [⟨(some 6), .box false 7 (.t 2), [], none⟩,
   ⟨(some 8), .asg (.c (.p (.bool false))), [], none⟩]
def vf17r1 : List VOper :=
  [⟨(some 14), .mv (.t 0), [], none⟩,
   ⟨(some 15), .load (some 7) (.t 6), [], none⟩,
   ⟨(some 16), .call 21 [(.t 14), (.t 15)], [0, 1], none⟩,
   ⟨(some 13), .mv (.t 16), [2], none⟩,
   ⟨(some 17), .ext (.t 13) 0, [3], none⟩,
   ⟨(some 18), .ext (.t 13) 1, [3], none⟩,
   ⟨(some 9), .alloc false [(.int Go.IntKind.u32 0), (.int Go.IntKind.u32 0), (.int Go.IntKind.u64 0), (.int Go.IntKind.u64 0), (.int Go.IntKind.u32 0), (.int Go.IntKind.u32 0), (.int Go.IntKind.i64 0), (.int Go.IntKind.i64 0), (.int Go.IntKind.i64 0), (.int Go.IntKind.i64 0), (.int Go.IntKind.i64 0), (.int Go.IntKind.i64 0), (.int Go.IntKind.i64 0), (.str []), (.str []), (.str []), (.str []), (.int Go.IntKind.i64 0), (.int Go.IntKind.i64 0), .nils], [], none⟩,
   ⟨none, .store 20 (.t 9) (.t 17), [6, 4, 2, 0, 1, 2, 3, 4, 6], none⟩,
   ⟨(some 10), .asg (.t 18), [5, 7, 0, 1, 2, 3, 4, 5, 6, 7], none⟩]
def vf17r2 : List VOper :=
  [⟨(some 20), .mv (.t 1), [], none⟩,
   ⟨(some 21), .load (some 7) (.t 6), [], none⟩,
   ⟨(some 22), .call 39 [(.t 20), (.t 21)], [0, 1], none⟩,
   ⟨(some 19), .mv (.t 22), [2], none⟩,
   ⟨(some 23), .ext (.t 19) 0, [3], none⟩,
   ⟨(some 24), .ext (.t 19) 1, [3], none⟩,
   ⟨(some 11), .alloc false [(.int Go.IntKind.u32 0), (.int Go.IntKind.u32 0), (.int Go.IntKind.u64 0), (.int Go.IntKind.u64 0), (.int Go.IntKind.u32 0), (.int Go.IntKind.u32 0), (.int Go.IntKind.i64 0), (.int Go.IntKind.i64 0), (.int Go.IntKind.i64 0), (.int Go.IntKind.i64 0), (.int Go.IntKind.i64 0), (.int Go.IntKind.i64 0), (.int Go.IntKind.i64 0), (.str []), (.str []), (.str []), (.str []), (.int Go.IntKind.i64 0), (.int Go.IntKind.i64 0), .nils], [], none⟩,
   ⟨none, .store 20 (.t 11) (.t 23), [6, 4, 2, 0, 1, 2, 3, 4, 6], none⟩,
   ⟨(some 12), .asg (.t 24), [5, 7, 0, 1, 2, 3, 4, 5, 6, 7], none⟩]
def vf17r3 : List VOper :=
  [⟨(some 25), .mv (.t 10), [], none⟩,
   ⟨(some 26), .mv (.t 12), [], none⟩,
   ⟨(some 27), .bin Go.BinOp.neq .bool (.t 25) (.t 26), [0, 1], none⟩,
   ⟨(some 28), .mv (.t 27), [2], none⟩,
   ⟨(some 29), .load (some 20) (.t 9), [3], (some (3, false))⟩,
   ⟨(some 30), .call 34 [(.t 29)], [4, 3, 3], (some (3, false))⟩,
   ⟨(some 31), .load (some 20) (.t 11), [3], (some (3, false))⟩,
   ⟨(some 32), .call 29 [(.t 30), (.t 31)], [5, 6, 5, 3], (some (3, false))⟩,
   ⟨(some 33), .un Go.UnOp.not (.t 32), [7, 3], (some (3, false))⟩,
   ⟨(some 34), .pick (.t 28) (.c (.p (.bool true))) (.t 33), [3, 8], none⟩]
def vf17r4 : List VOper :=
  [⟨(some 8), .asg (.c (.p (.bool false))), [], none⟩]
def vf17r5 : List VOper :=
  [⟨(some 36), .mv (.t 0), [], none⟩,
   ⟨(some 37), .mv (.t 3), [], none⟩,
   ⟨(some 38), .call 22 [(.t 36), (.t 37)], [0, 1], none⟩,
   ⟨(some 35), .mv (.t 38), [2], none⟩,
   ⟨(some 39), .ext (.t 35) 0, [3], none⟩,
   ⟨(some 40), .ext (.t 35) 1, [3], none⟩,
   ⟨none, .store 20 (.t 9) (.t 39), [4, 2, 0, 1, 2, 3, 4], none⟩,
   ⟨(some 10), .asg (.t 40), [5, 6, 0, 1, 2, 3, 4, 5, 6], none⟩]
def vf17r6 : List VOper :=
  [⟨(some 42), .mv (.t 1), [], none⟩,
   ⟨(some 43), .mv (.t 3), [], none⟩,
   ⟨(some 44), .call 40 [(.t 42), (.t 43)], [0, 1], none⟩,
   ⟨(some 41), .mv (.t 44), [2], none⟩,
   ⟨(some 45), .ext (.t 41) 0, [3], none⟩,
   ⟨(some 46), .ext (.t 41) 1, [3], none⟩,
   ⟨none, .store 20 (.t 11) (.t 45), [4, 2, 0, 1, 2, 3, 4], none⟩,
   ⟨(some 12), .asg (.t 46), [5, 6, 0, 1, 2, 3, 4, 5, 6], none⟩]
def vf17r7 : List VOper :=
  [⟨(some 47), .mv (.t 10), [], none⟩,
   ⟨(some 48), .mv (.t 12), [], none⟩,
   ⟨(some 49), .bin Go.BinOp.neq .bool (.t 47) (.t 48), [0, 1], none⟩,
   ⟨(some 50), .mv (.t 49), [2], none⟩,
   ⟨(some 51), .load (some 20) (.t 9), [3], (some (3, false))⟩,
   ⟨(some 52), .call 34 [(.t 51)], [4, 3, 3], (some (3, false))⟩,
   ⟨(some 53), .load (some 20) (.t 11), [3], (some (3, false))⟩,
   ⟨(some 54), .call 29 [(.t 52), (.t 53)], [5, 6, 5, 3], (some (3, false))⟩,
   ⟨(some 55), .un Go.UnOp.not (.t 54), [7, 3], (some (3, false))⟩,
   ⟨(some 56), .pick (.t 50) (.c (.p (.bool true))) (.t 55), [3, 8], none⟩]
def vf17r8 : List VOper :=
  [⟨(some 8), .asg (.c (.p (.bool false))), [], none⟩]
def vf17r9 : List VOper :=
  [⟨(some 58), .mv (.t 0), [], none⟩,
   ⟨(some 59), .load (some 7) (.t 6), [], none⟩,
   ⟨(some 60), .call 14 [(.t 58), (.t 59)], [0, 1], none⟩,
   ⟨(some 57), .mv (.t 60), [2], none⟩,
   ⟨(some 61), .ext (.t 57) 0, [3], none⟩,
   ⟨(some 62), .ext (.t 57) 1, [3], none⟩,
   ⟨none, .store 20 (.t 9) (.t 61), [4, 2, 0, 1, 2, 3, 4], none⟩,
   ⟨(some 10), .asg (.t 62), [5, 6, 0, 1, 2, 3, 4, 5, 6], none⟩]
def vf17r10 : List VOper :=
  [⟨(some 64), .mv (.t 1), [], none⟩,
   ⟨(some 65), .load (some 7) (.t 6), [], none⟩,
   ⟨(some 66), .call 41 [(.t 64), (.t 65)], [0, 1], none⟩,
   ⟨(some 63), .mv (.t 66), [2], none⟩,
   ⟨(some 67), .ext (.t 63) 0, [3], none⟩,
   ⟨(some 68), .ext (.t 63) 1, [3], none⟩,
   ⟨none, .store 20 (.t 11) (.t 67), [4, 2, 0, 1, 2, 3, 4], none⟩,
   ⟨(some 12), .asg (.t 68), [5, 6, 0, 1, 2, 3, 4, 5, 6], none⟩]
def vf17r11 : List VOper :=
  [⟨(some 69), .mv (.t 10), [], none⟩,
   ⟨(some 70), .mv (.t 12), [], none⟩,
   ⟨(some 71), .bin Go.BinOp.eql .bool (.t 69) (.t 70), [0, 1], none⟩,
   ⟨(some 72), .mv (.t 71), [2], none⟩,
   ⟨(some 73), .load (some 20) (.t 9), [3], (some (3, true))⟩,
   ⟨(some 74), .call 34 [(.t 73)], [4, 3, 3], (some (3, true))⟩,
   ⟨(some 75), .load (some 20) (.t 11), [3], (some (3, true))⟩,
   ⟨(some 76), .call 29 [(.t 74), (.t 75)], [5, 6, 5, 3], (some (3, true))⟩,
   ⟨(some 77), .pick (.t 72) (.t 76) (.c (.p (.bool false))), [3, 7], none⟩,
   ⟨(some 78), .mv (.t 77), [8, 7], none⟩,
   ⟨(some 79), .mv (.t 0), [9], (some (9, true))⟩,
   ⟨(some 80), .call 12 [(.t 79)], [10, 9, 9], (some (9, true))⟩,
   ⟨(some 81), .mv (.t 1), [9], (some (9, true))⟩,
   ⟨(some 82), .nilck (.t 81), [12, 9], (some (9, true))⟩,
   ⟨(some 83), .faddr 0 (.t 82), [13, 9], (some (9, true))⟩,
   ⟨(some 84), .load none (.t 83), [14, 9], (some (9, true))⟩,
   ⟨(some 85), .bin Go.BinOp.eql .no (.t 80) (.t 84), [11, 15, 9], (some (9, true))⟩,
   ⟨(some 86), .pick (.t 78) (.t 85) (.c (.p (.bool false))), [9, 16], none⟩,
   ⟨(some 87), .mv (.t 86), [17, 11], none⟩,
   ⟨(some 88), .mv (.t 0), [18], (some (18, true))⟩,
   ⟨(some 89), .call 11 [(.t 88)], [19, 18, 18], (some (18, true))⟩,
   ⟨(some 90), .call 15 [(.t 89)], [20, 20, 18], (some (18, true))⟩,
   ⟨(some 91), .mv (.t 1), [18], (some (18, true))⟩,
   ⟨(some 92), .nilck (.t 91), [22, 18], (some (18, true))⟩,
   ⟨(some 93), .faddr 2 (.t 92), [23, 18], (some (18, true))⟩,
   ⟨(some 94), .load none (.t 93), [24, 18], (some (18, true))⟩,
   ⟨(some 95), .call 31 [(.t 90), (.t 94)], [21, 25, 21, 18], (some (18, true))⟩,
   ⟨(some 96), .pick (.t 87) (.t 95) (.c (.p (.bool false))), [18, 26], none⟩,
   ⟨(some 8), .asg (.t 96), [27, 26, 0, 1, 2, 3, 4, 5, 6, 7, 8, 9, 10, 11, 12, 13, 14, 15, 16, 17, 18, 19, 20, 21, 22, 23, 24, 25, 26, 27], none⟩]
def vf17 : VFun where
  vars := [0, 1, 2, 3, 29, 30, 31, 32, 33, 51, 52, 53, 54, 55, 73, 74, 75, 76, 79, 80, 81, 82, 83, 84, 85, 88, 89, 90, 91, 92, 93, 94, 95]
  boxes := [6, 9, 11]
  mv := []
  res := [(.t 8)]
  body := (.seq (.region none vf17r0 [0, 1, 3, 6, 29, 30, 31, 32, 33, 51, 52, 53, 54, 55, 73, 74, 75, 76, 79, 80, 81, 82, 83, 84, 85, 88, 89, 90, 91, 92, 93, 94, 95] [0, 1, 3, 6, 29, 30, 31, 32, 33, 51, 52, 53, 54, 55, 73, 74, 75, 76, 79, 80, 81, 82, 83, 84, 85, 88, 89, 90, 91, 92, 93, 94, 95])
 (.seq (.region none vf17r1 [0, 1, 3, 6, 9, 10, 18, 29, 30, 31, 32, 33, 40, 51, 52, 53, 54, 55, 62, 73, 74, 75, 76, 79, 80, 81, 82, 83, 84, 85, 88, 89, 90, 91, 92, 93, 94, 95] [0, 1, 3, 6, 9, 10, 18, 29, 30, 31, 32, 33, 40, 51, 52, 53, 54, 55, 62, 73, 74, 75, 76, 79, 80, 81, 82, 83, 84, 85, 88, 89, 90, 91, 92, 93, 94, 95])
 (.seq (.region none vf17r2 [0, 1, 3, 6, 9, 10, 11, 12, 18, 24, 29, 30, 31, 32, 33, 40, 46, 51, 52, 53, 54, 55, 62, 68, 73, 74, 75, 76, 79, 80, 81, 82, 83, 84, 85, 88, 89, 90, 91, 92, 93, 94, 95] [0, 1, 3, 6, 9, 10, 11, 12, 18, 24, 29, 30, 31, 32, 33, 40, 46, 51, 52, 53, 54, 55, 62, 68, 73, 74, 75, 76, 79, 80, 81, 82, 83, 84, 85, 88, 89, 90, 91, 92, 93, 94, 95])
 (.seq (.seq (.region (some ([], (.one 0 (.one 1 (.one 2 (.one 3 (.one 4 (.one 5 (.one 6 (.one 7 (.one 8 (.one 9 .fin)))))))))))) vf17r3 [0, 1, 3, 6, 9, 11, 34, 51, 52, 53, 54, 55, 73, 74, 75, 76, 79, 80, 81, 82, 83, 84, 85, 88, 89, 90, 91, 92, 93, 94, 95] [0, 1, 3, 6, 9, 11, 34, 51, 52, 53, 54, 55, 73, 74, 75, 76, 79, 80, 81, 82, 83, 84, 85, 88, 89, 90, 91, 92, 93, 94, 95])
 (.cond (.t 34) (.seq (.region none vf17r4 [8, 96] [8, 96])
 .ret)
 .skip))
 (.seq (.region none vf17r5 [0, 1, 3, 6, 9, 10, 11, 18, 40, 51, 52, 53, 54, 55, 62, 73, 74, 75, 76, 79, 80, 81, 82, 83, 84, 85, 88, 89, 90, 91, 92, 93, 94, 95] [0, 1, 3, 6, 9, 10, 11, 18, 40, 51, 52, 53, 54, 55, 62, 73, 74, 75, 76, 79, 80, 81, 82, 83, 84, 85, 88, 89, 90, 91, 92, 93, 94, 95])
 (.seq (.region none vf17r6 [0, 1, 6, 9, 10, 11, 12, 18, 24, 40, 46, 51, 52, 53, 54, 55, 62, 68, 73, 74, 75, 76, 79, 80, 81, 82, 83, 84, 85, 88, 89, 90, 91, 92, 93, 94, 95] [0, 1, 6, 9, 10, 11, 12, 18, 24, 40, 46, 51, 52, 53, 54, 55, 62, 68, 73, 74, 75, 76, 79, 80, 81, 82, 83, 84, 85, 88, 89, 90, 91, 92, 93, 94, 95])
 (.seq (.seq (.region (some ([], (.one 0 (.one 1 (.one 2 (.one 3 (.one 4 (.one 5 (.one 6 (.one 7 (.one 8 (.one 9 .fin)))))))))))) vf17r7 [0, 1, 6, 9, 11, 56, 73, 74, 75, 76, 79, 80, 81, 82, 83, 84, 85, 88, 89, 90, 91, 92, 93, 94, 95] [0, 1, 6, 9, 11, 56, 73, 74, 75, 76, 79, 80, 81, 82, 83, 84, 85, 88, 89, 90, 91, 92, 93, 94, 95])
 (.cond (.t 56) (.seq (.region none vf17r8 [8, 96] [8, 96])
 .ret)
 .skip))
 (.seq (.region none vf17r9 [0, 1, 6, 9, 10, 11, 18, 40, 62, 73, 74, 75, 76, 79, 80, 81, 82, 83, 84, 85, 88, 89, 90, 91, 92, 93, 94, 95] [0, 1, 6, 9, 10, 11, 18, 40, 62, 73, 74, 75, 76, 79, 80, 81, 82, 83, 84, 85, 88, 89, 90, 91, 92, 93, 94, 95])
 (.seq (.region none vf17r10 [0, 1, 9, 10, 11, 12, 18, 24, 40, 46, 62, 68, 73, 74, 75, 76, 79, 80, 81, 82, 83, 84, 85, 88, 89, 90, 91, 92, 93, 94, 95] [0, 1, 9, 10, 11, 12, 18, 24, 40, 46, 62, 68, 73, 74, 75, 76, 79, 80, 81, 82, 83, 84, 85, 88, 89, 90, 91, 92, 93, 94, 95])
 (.seq (.region (some ([28], (.one 0 (.one 1 (.one 2 (.one 3 (.one 4 (.one 5 (.one 6 (.one 7 (.one 8 (.one 9 (.one 10 (.one 11 (.one 12 (.one 13 (.one 14 (.one 15 (.one 16 (.one 17 (.one 18 (.one 19 (.one 20 (.one 21 (.one 22 (.one 23 (.one 24 (.one 25 (.one 26 (.one 27 (.one 28 .fin))))))))))))))))))))))))))))))) vf17r11 [8, 96] [8, 96])
 .ret))))))))))

def vf18r0 : List VOper :=
  [⟨(some 1), .box false 20 (.t 0), [], none⟩,
   ⟨(some 2), .alloc false [(.int Go.IntKind.u32 0), (.int Go.IntKind.u32 0), (.int Go.IntKind.u64 0), (.int Go.IntKind.u64 0), (.int Go.IntKind.u32 0), (.int Go.IntKind.u32 0), (.int Go.IntKind.i64 0), (.int Go.IntKind.i64 0), (.int Go.IntKind.i64 0), (.int Go.IntKind.i64 0), (.int Go.IntKind.i64 0), (.int Go.IntKind.i64 0), (.int Go.IntKind.i64 0), (.str []), (.str []), (.str []), (.str []), (.int Go.IntKind.i64 0), (.int Go.IntKind.i64 0), .nils], [], none⟩]
def vf18r1 : List VOper :=
  [⟨(some 3), .faddr 19 (.t 1), [], none⟩,
   ⟨(some 4), .load none (.t 3), [0], none⟩,
   ⟨(some 5), .len false (.t 4), [1], none⟩,
   ⟨(some 6), .bin Go.BinOp.gtr .no (.t 5) (.c (.p (.int Go.IntKind.i64 10))), [2], none⟩]
def vf18r2 : List VOper :=
  [⟨(some 7), .faddr 19 (.t 1), [], none⟩,
   ⟨(some 8), .load none (.t 7), [0], none⟩,
   ⟨(some 9), .slc false 3 (.t 8) none (some (.c (.p (.int Go.IntKind.i64 10)))) none, [1], none⟩,
   ⟨(some 10), .faddr 19 (.t 1), [0, 1, 2], none⟩,
   ⟨none, .store 1 (.t 10) (.t 9), [3, 2, 0, 1, 2], none⟩]
def vf18r3 : List VOper :=
  [⟨(some 11), .load (some 20) (.t 1), [], none⟩,
   ⟨none, .store 20 (.t 2) (.t 11), [0, 0], none⟩]
def vf18 : VFun where
  vars := [0]
  boxes := [1, 2]
  mv := []
  res := [(.cell 2 (some 20))]
  body := (.seq (.region none vf18r0 [1, 2] [1, 2])
 (.seq (.seq (.region none vf18r1 [1, 2, 6] [1, 2, 6])
 (.cond (.t 6) (.region none vf18r2 [1, 2] [1, 2])
 .skip))
 (.seq (.region none vf18r3 [2] [2])
 .ret)))

def vf19r0 : List VOper :=
  [⟨(some 3), .box false 20 (.t 1), [], none⟩,
   ⟨(some 4), .alloc false [(.int Go.IntKind.u32 0), (.int Go.IntKind.u32 0), (.int Go.IntKind.u64 0), (.int Go.IntKind.u64 0), (.int Go.IntKind.u32 0), (.int Go.IntKind.u32 0), (.int Go.IntKind.i64 0), (.int Go.IntKind.i64 0), (.int Go.IntKind.i64 0), (.int Go.IntKind.i64 0), (.int Go.IntKind.i64 0), (.int Go.IntKind.i64 0), (.int Go.IntKind.i64 0), (.str []), (.str []), (.str []), (.str []), (.int Go.IntKind.i64 0), (.int Go.IntKind.i64 0), .nils], [], none⟩,
   ⟨(some 5), .asg (.c (.p (.int Go.IntKind.i64 0))), [], none⟩]
def vf19r1 : List VOper :=
  [⟨(some 10), .mv (.t 0), [], none⟩,
   ⟨(some 11), .bin Go.BinOp.eql .ptr (.t 10) (.c .nilp), [0], none⟩,
   ⟨(some 9), .asg (.t 11), [1], none⟩]
def vf19r2 : List VOper :=
  [⟨(some 12), .build [(.p (.int Go.IntKind.u32 0)), (.p (.int Go.IntKind.u32 0)), (.p (.int Go.IntKind.u64 0)), (.p (.int Go.IntKind.u64 0)), (.p (.int Go.IntKind.u32 0)), (.p (.int Go.IntKind.u32 0)), (.p (.int Go.IntKind.i64 0)), (.p (.int Go.IntKind.i64 0)), (.p (.int Go.IntKind.i64 0)), (.p (.int Go.IntKind.i64 0)), (.p (.int Go.IntKind.i64 0)), (.p (.int Go.IntKind.i64 0)), (.p (.int Go.IntKind.i64 0)), (.p (.str [])), (.p (.str [])), (.p (.str [])), (.p (.str [])), (.p (.int Go.IntKind.i64 0)), (.p (.int Go.IntKind.i64 0)), (.p .nils)] [], [], none⟩,
   ⟨none, .store 20 (.t 4) (.t 12), [0, 0], none⟩,
   ⟨(some 5), .asg (.c (.p (.int Go.IntKind.i64 11))), [1, 0, 1], none⟩]
def vf19r3 : List VOper :=
  [⟨(some 14), .faddr 2 (.t 3), [], none⟩,
   ⟨(some 15), .load (some 7) (.t 14), [0], none⟩,
   ⟨(some 16), .call 42 [(.t 15)], [1], none⟩,
   ⟨(some 17), .un Go.UnOp.not (.t 16), [2], none⟩,
   ⟨(some 18), .mv (.t 17), [3, 2], none⟩,
   ⟨(some 19), .faddr 19 (.t 3), [4], (some (4, false))⟩,
   ⟨(some 20), .load none (.t 19), [5, 4], (some (4, false))⟩,
   ⟨(some 21), .len false (.t 20), [6, 4], (some (4, false))⟩,
   ⟨(some 22), .bin Go.BinOp.eql .no (.t 21) (.c (.p (.int Go.IntKind.i64 0))), [7, 4], (some (4, false))⟩,
   ⟨(some 23), .pick (.t 18) (.c (.p (.bool true))) (.t 22), [4, 8], none⟩,
   ⟨(some 13), .asg (.t 23), [9, 4], none⟩]
def vf19r4 : List VOper :=
  [⟨(some 24), .build [(.p (.int Go.IntKind.u32 0)), (.p (.int Go.IntKind.u32 0)), (.p (.int Go.IntKind.u64 0)), (.p (.int Go.IntKind.u64 0)), (.p (.int Go.IntKind.u32 0)), (.p (.int Go.IntKind.u32 0)), (.p (.int Go.IntKind.i64 0)), (.p (.int Go.IntKind.i64 0)), (.p (.int Go.IntKind.i64 0)), (.p (.int Go.IntKind.i64 0)), (.p (.int Go.IntKind.i64 0)), (.p (.int Go.IntKind.i64 0)), (.p (.int Go.IntKind.i64 0)), (.p (.str [])), (.p (.str [])), (.p (.str [])), (.p (.str [])), (.p (.int Go.IntKind.i64 0)), (.p (.int Go.IntKind.i64 0)), (.p .nils)] [], [], none⟩,
   ⟨none, .store 20 (.t 4) (.t 24), [0, 0], none⟩,
   ⟨(some 5), .asg (.c (.p (.int Go.IntKind.i64 1))), [1, 0, 1], none⟩]
def vf19r5 : List VOper :=
  [⟨(some 26), .faddr 1 (.t 3), [], none⟩,
   ⟨(some 27), .load none (.t 26), [0], none⟩,
   ⟨(some 28), .mv (.t 0), [], none⟩,
   ⟨(some 29), .nilck (.t 28), [2], none⟩,
   ⟨(some 30), .faddr 0 (.t 29), [3], none⟩,
   ⟨(some 31), .load none (.t 30), [4], none⟩,
   ⟨(some 32), .bin Go.BinOp.neq .no (.t 27) (.t 31), [1, 5], none⟩,
   ⟨(some 25), .asg (.t 32), [6], none⟩]
def vf19r6 : List VOper :=
  [⟨(some 33), .build [(.p (.int Go.IntKind.u32 0)), (.p (.int Go.IntKind.u32 0)), (.p (.int Go.IntKind.u64 0)), (.p (.int Go.IntKind.u64 0)), (.p (.int Go.IntKind.u32 0)), (.p (.int Go.IntKind.u32 0)), (.p (.int Go.IntKind.i64 0)), (.p (.int Go.IntKind.i64 0)), (.p (.int Go.IntKind.i64 0)), (.p (.int Go.IntKind.i64 0)), (.p (.int Go.IntKind.i64 0)), (.p (.int Go.IntKind.i64 0)), (.p (.int Go.IntKind.i64 0)), (.p (.str [])), (.p (.str [])), (.p (.str [])), (.p (.str [])), (.p (.int Go.IntKind.i64 0)), (.p (.int Go.IntKind.i64 0)), (.p .nils)] [], [], none⟩,
   ⟨none, .store 20 (.t 4) (.t 33), [0, 0], none⟩,
   ⟨(some 5), .asg (.c (.p (.int Go.IntKind.i64 45))), [1, 0, 1], none⟩]
def vf19r7 : List VOper :=
  [⟨(some 35), .mv (.t 0), [], none⟩,
   ⟨(some 36), .faddr 2 (.t 3), [], none⟩,
   ⟨(some 37), .load (some 7) (.t 36), [1], none⟩,
   ⟨(some 38), .call 21 [(.t 35), (.t 37)], [0, 2], none⟩,
   ⟨(some 34), .mv (.t 38), [3], none⟩,
   ⟨(some 39), .ext (.t 34) 0, [4], none⟩,
   ⟨(some 40), .ext (.t 34) 1, [4], none⟩,
   ⟨(some 6), .alloc false [(.int Go.IntKind.u32 0), (.int Go.IntKind.u32 0), (.int Go.IntKind.u64 0), (.int Go.IntKind.u64 0), (.int Go.IntKind.u32 0), (.int Go.IntKind.u32 0), (.int Go.IntKind.i64 0), (.int Go.IntKind.i64 0), (.int Go.IntKind.i64 0), (.int Go.IntKind.i64 0), (.int Go.IntKind.i64 0), (.int Go.IntKind.i64 0), (.int Go.IntKind.i64 0), (.str []), (.str []), (.str []), (.str []), (.int Go.IntKind.i64 0), (.int Go.IntKind.i64 0), .nils], [], none⟩,
   ⟨none, .store 20 (.t 6) (.t 39), [7, 5, 3, 0, 1, 2, 3, 4, 5, 7], none⟩,
   ⟨(some 7), .asg (.t 40), [6, 8, 0, 1, 2, 3, 4, 5, 6, 7, 8], none⟩]
def vf19r8 : List VOper :=
  [⟨(some 41), .mv (.t 7), [], none⟩]
def vf19r9 : List VOper :=
  [⟨(some 42), .build [(.p (.int Go.IntKind.u32 0)), (.p (.int Go.IntKind.u32 0)), (.p (.int Go.IntKind.u64 0)), (.p (.int Go.IntKind.u64 0)), (.p (.int Go.IntKind.u32 0)), (.p (.int Go.IntKind.u32 0)), (.p (.int Go.IntKind.i64 0)), (.p (.int Go.IntKind.i64 0)), (.p (.int Go.IntKind.i64 0)), (.p (.int Go.IntKind.i64 0)), (.p (.int Go.IntKind.i64 0)), (.p (.int Go.IntKind.i64 0)), (.p (.int Go.IntKind.i64 0)), (.p (.str [])), (.p (.str [])), (.p (.str [])), (.p (.str [])), (.p (.int Go.IntKind.i64 0)), (.p (.int Go.IntKind.i64 0)), (.p .nils)] [], [], none⟩,
   ⟨none, .store 20 (.t 4) (.t 42), [0, 0], none⟩,
   ⟨(some 5), .asg (.c (.p (.int Go.IntKind.i64 3))), [1, 0, 1], none⟩]
def vf19r10 : List VOper :=
  [⟨(some 43), .mv (.t 0), [], none⟩,
   ⟨(some 44), .nilck (.t 43), [0], none⟩,
   ⟨(some 45), .faddr 1 (.t 44), [1], none⟩,
   ⟨(some 46), .load none (.t 45), [2], none⟩,
   ⟨(some 47), .bin Go.BinOp.add .no (.t 46) (.c (.p (.int Go.IntKind.u32 1))), [3], none⟩,
   ⟨(some 48), .faddr 0 (.t 3), [0, 1, 2, 3, 4], none⟩,
   ⟨none, .store 1 (.t 48) (.t 47), [5, 4, 0, 1, 2, 3, 4], none⟩]
def vf19r11 : List VOper :=
  [⟨(some 49), .mv (.t 0), [], none⟩,
   ⟨(some 50), .nilck (.t 49), [0], none⟩,
   ⟨(some 51), .faddr 2 (.t 50), [1], none⟩,
   ⟨(some 52), .load none (.t 51), [2], none⟩,
   ⟨(some 53), .faddr 0 (.t 3), [], none⟩,
   ⟨(some 54), .load none (.t 53), [4], none⟩,
   ⟨(some 55), .load (some 20) (.t 3), [], none⟩,
   ⟨(some 56), .call 36 [(.t 55)], [6], none⟩,
   ⟨(some 57), .call 43 [(.t 52), (.t 54), (.t 56)], [3, 5, 7, 7], none⟩,
   ⟨(some 8), .asg (.t 57), [8, 8, 0, 1, 2, 3, 4, 5, 6, 7, 8], none⟩]
def vf19r12 : List VOper :=
  [⟨(some 58), .mv (.t 8), [], none⟩,
   ⟨(some 59), .bin Go.BinOp.neq .no (.t 58) (.c (.p (.int Go.IntKind.i64 0))), [0], none⟩]
def vf19r13 : List VOper :=
  [⟨(some 60), .build [(.p (.int Go.IntKind.u32 0)), (.p (.int Go.IntKind.u32 0)), (.p (.int Go.IntKind.u64 0)), (.p (.int Go.IntKind.u64 0)), (.p (.int Go.IntKind.u32 0)), (.p (.int Go.IntKind.u32 0)), (.p (.int Go.IntKind.i64 0)), (.p (.int Go.IntKind.i64 0)), (.p (.int Go.IntKind.i64 0)), (.p (.int Go.IntKind.i64 0)), (.p (.int Go.IntKind.i64 0)), (.p (.int Go.IntKind.i64 0)), (.p (.int Go.IntKind.i64 0)), (.p (.str [])), (.p (.str [])), (.p (.str [])), (.p (.str [])), (.p (.int Go.IntKind.i64 0)), (.p (.int Go.IntKind.i64 0)), (.p .nils)] [], [], none⟩,
   ⟨(some 61), .mv (.t 8), [], none⟩,
   ⟨none, .store 20 (.t 4) (.t 60), [0, 0], none⟩,
   ⟨(some 5), .asg (.t 61), [1, 2, 0, 1, 2], none⟩]
def vf19r14 : List VOper :=
  [⟨(some 62), .mv (.t 0), [], none⟩,
   ⟨(some 63), .nilck (.t 62), [0], none⟩,
   ⟨(some 64), .faddr 1 (.t 63), [1], none⟩,
   ⟨(some 65), .load none (.t 64), [2], none⟩,
   ⟨(some 66), .bin Go.BinOp.add .no (.t 65) (.c (.p (.int Go.IntKind.u32 1))), [3], none⟩,
   ⟨(some 67), .nilck (.t 62), [0, 0, 1, 2, 3, 4], none⟩,
   ⟨(some 68), .faddr 1 (.t 67), [5, 0, 1, 2, 3, 4], none⟩,
   ⟨none, .store 1 (.t 68) (.t 66), [6, 4, 0, 1, 2, 3, 4], none⟩]
def vf19r15 : List VOper :=
  [⟨(some 69), .load (some 20) (.t 3), [], none⟩,
   ⟨(some 70), .call 36 [(.t 69)], [0], none⟩,
   ⟨none, .store 20 (.t 4) (.t 70), [1, 1, 0, 1], none⟩,
   ⟨(some 5), .asg (.c (.p (.int Go.IntKind.i64 0))), [2, 0, 1, 2], none⟩]
def vf19 : VFun where
  vars := [0, 1, 19, 20, 21, 22]
  boxes := [3, 4, 6]
  mv := []
  res := [(.cell 4 (some 20)), (.t 5)]
  body := (.seq (.region none vf19r0 [0, 3, 4, 19, 20, 21, 22] [0, 3, 4, 19, 20, 21, 22])
 (.seq (.block 0 (.seq (.region none vf19r1 [0, 3, 4, 9, 11, 19, 20, 21, 22] [0, 3, 4, 9, 11, 19, 20, 21, 22])
 (.cond (.t 9) (.seq (.region none vf19r2 [4, 5, 8, 57, 61] [4, 5, 8, 57, 61])
 .ret)
 (.seq (.region none vf19r3 [0, 3, 4, 13, 23] [0, 3, 4, 13, 23])
 (.cond (.t 13) (.seq (.region none vf19r4 [4, 5, 8, 57, 61] [4, 5, 8, 57, 61])
 .ret)
 (.seq (.region (some ([7], (.one 0 (.one 1 (.one 2 (.one 3 (.one 4 (.one 5 (.one 6 (.one 7 .fin)))))))))) vf19r5 [0, 3, 4, 25, 32] [0, 3, 4, 25, 32])
 (.cond (.t 25) (.seq (.region none vf19r6 [4, 5, 8, 57, 61] [4, 5, 8, 57, 61])
 .ret)
 .skip)))))))
 (.seq (.seq (.region none vf19r7 [0, 3, 4, 7, 40] [0, 3, 4, 7, 40])
 (.seq (.region none vf19r8 [0, 3, 4, 7, 40, 41] [0, 3, 4, 7, 40, 41])
 (.cond (.t 41) (.seq (.region none vf19r9 [4, 5, 8, 57, 61] [4, 5, 8, 57, 61])
 .ret)
 .skip)))
 (.seq (.region none vf19r10 [0, 3, 4] [0, 3, 4])
 (.seq (.seq (.region (some ([7, 8, 9], (.one 6 (.alt 0 (.alt 1 (.alt 2 (.alt 3 (.alt 4 (.alt 5 (.one 7 (.one 8 (.one 9 .fin))) (.alt 7 (.one 5 (.one 8 (.one 9 .fin))) .fin)) (.alt 7 (.one 4 (.one 5 (.one 8 (.one 9 .fin)))) .fin)) (.alt 4 (.alt 3 (.alt 5 (.one 7 (.one 8 (.one 9 .fin))) (.alt 7 (.one 5 (.one 8 (.one 9 .fin))) .fin)) (.alt 5 (.alt 3 (.one 7 (.one 8 (.one 9 .fin))) (.alt 7 (.one 3 (.one 8 (.one 9 .fin))) .fin)) (.alt 7 (.one 3 (.one 5 (.one 8 (.one 9 .fin)))) .fin))) (.alt 7 (.one 3 (.one 4 (.one 5 (.one 8 (.one 9 .fin))))) .fin))) (.alt 4 (.alt 2 (.alt 3 (.alt 5 (.one 7 (.one 8 (.one 9 .fin))) (.alt 7 (.one 5 (.one 8 (.one 9 .fin))) .fin)) (.alt 5 (.alt 3 (.one 7 (.one 8 (.one 9 .fin))) (.alt 7 (.one 3 (.one 8 (.one 9 .fin))) .fin)) (.alt 7 (.one 3 (.one 5 (.one 8 (.one 9 .fin)))) .fin))) (.alt 5 (.alt 2 (.alt 3 (.one 7 (.one 8 (.one 9 .fin))) (.alt 7 (.one 3 (.one 8 (.one 9 .fin))) .fin)) (.alt 7 (.one 2 (.one 3 (.one 8 (.one 9 .fin)))) .fin)) (.alt 7 (.one 2 (.one 3 (.one 5 (.one 8 (.one 9 .fin))))) .fin))) (.alt 7 (.one 2 (.one 3 (.one 4 (.one 5 (.one 8 (.one 9 .fin)))))) .fin))) (.alt 4 (.alt 1 (.alt 2 (.alt 3 (.alt 5 (.one 7 (.one 8 (.one 9 .fin))) (.alt 7 (.one 5 (.one 8 (.one 9 .fin))) .fin)) (.alt 5 (.alt 3 (.one 7 (.one 8 (.one 9 .fin))) (.alt 7 (.one 3 (.one 8 (.one 9 .fin))) .fin)) (.alt 7 (.one 3 (.one 5 (.one 8 (.one 9 .fin)))) .fin))) (.alt 5 (.alt 2 (.alt 3 (.one 7 (.one 8 (.one 9 .fin))) (.alt 7 (.one 3 (.one 8 (.one 9 .fin))) .fin)) (.alt 7 (.one 2 (.one 3 (.one 8 (.one 9 .fin)))) .fin)) (.alt 7 (.one 2 (.one 3 (.one 5 (.one 8 (.one 9 .fin))))) .fin))) (.alt 5 (.alt 1 (.alt 2 (.alt 3 (.one 7 (.one 8 (.one 9 .fin))) (.alt 7 (.one 3 (.one 8 (.one 9 .fin))) .fin)) (.alt 7 (.one 2 (.one 3 (.one 8 (.one 9 .fin)))) .fin)) (.alt 7 (.one 1 (.one 2 (.one 3 (.one 8 (.one 9 .fin))))) .fin)) (.alt 7 (.one 1 (.one 2 (.one 3 (.one 5 (.one 8 (.one 9 .fin)))))) .fin))) (.alt 7 (.one 1 (.one 2 (.one 3 (.one 4 (.one 5 (.one 8 (.one 9 .fin))))))) .fin))) (.alt 4 (.alt 0 (.alt 1 (.alt 2 (.alt 3 (.alt 5 (.one 7 (.one 8 (.one 9 .fin))) (.alt 7 (.one 5 (.one 8 (.one 9 .fin))) .fin)) (.alt 5 (.alt 3 (.one 7 (.one 8 (.one 9 .fin))) (.alt 7 (.one 3 (.one 8 (.one 9 .fin))) .fin)) (.alt 7 (.one 3 (.one 5 (.one 8 (.one 9 .fin)))) .fin))) (.alt 5 (.alt 2 (.alt 3 (.one 7 (.one 8 (.one 9 .fin))) (.alt 7 (.one 3 (.one 8 (.one 9 .fin))) .fin)) (.alt 7 (.one 2 (.one 3 (.one 8 (.one 9 .fin)))) .fin)) (.alt 7 (.one 2 (.one 3 (.one 5 (.one 8 (.one 9 .fin))))) .fin))) (.alt 5 (.alt 1 (.alt 2 (.alt 3 (.one 7 (.one 8 (.one 9 .fin))) (.alt 7 (.one 3 (.one 8 (.one 9 .fin))) .fin)) (.alt 7 (.one 2 (.one 3 (.one 8 (.one 9 .fin)))) .fin)) (.alt 7 (.one 1 (.one 2 (.one 3 (.one 8 (.one 9 .fin))))) .fin)) (.alt 7 (.one 1 (.one 2 (.one 3 (.one 5 (.one 8 (.one 9 .fin)))))) .fin))) (.alt 5 (.alt 0 (.alt 1 (.alt 2 (.alt 3 (.one 7 (.one 8 (.one 9 .fin))) (.alt 7 (.one 3 (.one 8 (.one 9 .fin))) .fin)) (.alt 7 (.one 2 (.one 3 (.one 8 (.one 9 .fin)))) .fin)) (.alt 7 (.one 1 (.one 2 (.one 3 (.one 8 (.one 9 .fin))))) .fin)) (.alt 7 (.one 0 (.one 1 (.one 2 (.one 3 (.one 8 (.one 9 .fin)))))) .fin)) (.alt 7 (.one 0 (.one 1 (.one 2 (.one 3 (.one 5 (.one 8 (.one 9 .fin))))))) .fin))) (.alt 7 (.one 0 (.one 1 (.one 2 (.one 3 (.one 4 (.one 5 (.one 8 (.one 9 .fin)))))))) .fin)))))) vf19r11 [0, 3, 4, 8, 57] [0, 3, 4, 8, 57])
 (.seq (.region none vf19r12 [0, 3, 4, 8, 57, 59] [0, 3, 4, 8, 57, 59])
 (.cond (.t 59) (.seq (.region none vf19r13 [4, 5, 8, 57, 61] [4, 5, 8, 57, 61])
 .ret)
 .skip)))
 (.seq (.region none vf19r14 [3, 4] [3, 4])
 (.seq (.region none vf19r15 [4, 5, 8, 57, 61] [4, 5, 8, 57, 61])
 .ret)))))))

def vf20r0 : List VOper :=
  [⟨(some 1), .box false 20 (.t 0), [], none⟩,
   ⟨(some 2), .alloc false [(.int Go.IntKind.u32 0), (.int Go.IntKind.u32 0), (.int Go.IntKind.u64 0), (.int Go.IntKind.u64 0), (.int Go.IntKind.u32 0), (.int Go.IntKind.u32 0), (.int Go.IntKind.i64 0), (.int Go.IntKind.i64 0), (.int Go.IntKind.i64 0), (.int Go.IntKind.i64 0), (.int Go.IntKind.i64 0), (.int Go.IntKind.i64 0), (.int Go.IntKind.i64 0), (.str []), (.str []), (.str []), (.str []), (.int Go.IntKind.i64 0), (.int Go.IntKind.i64 0), .nils], [], none⟩]
def vf20r1 : List VOper :=
  [⟨(some 3), .faddr 0 (.t 1), [], none⟩,
   ⟨(some 4), .load none (.t 3), [0], none⟩,
   ⟨(some 5), .faddr 1 (.t 1), [], none⟩,
   ⟨(some 6), .load none (.t 5), [2], none⟩,
   ⟨(some 7), .faddr 2 (.t 1), [], none⟩,
   ⟨(some 8), .load (some 7) (.t 7), [4], none⟩,
   ⟨(some 9), .faddr 9 (.t 1), [], none⟩,
   ⟨(some 10), .load (some 2) (.t 9), [6], none⟩,
   ⟨(some 11), .faddr 11 (.t 1), [], none⟩,
   ⟨(some 12), .load (some 2) (.t 11), [8], none⟩,
   ⟨(some 13), .faddr 13 (.t 1), [], none⟩,
   ⟨(some 14), .faddr 0 (.t 13), [10], none⟩,
   ⟨(some 15), .load none (.t 14), [11], none⟩,
   ⟨(some 16), .faddr 13 (.t 1), [], none⟩,
   ⟨(some 17), .faddr 1 (.t 16), [13], none⟩,
   ⟨(some 18), .load none (.t 17), [14], none⟩,
   ⟨(some 19), .build [(.p (.str [])), (.p (.str []))] [(0, 1, (.t 15)), (1, 1, (.t 18))], [12, 15], none⟩,
   ⟨(some 20), .faddr 15 (.t 1), [], none⟩,
   ⟨(some 21), .faddr 0 (.t 20), [17], none⟩,
   ⟨(some 22), .load none (.t 21), [18], none⟩,
   ⟨(some 23), .faddr 15 (.t 1), [], none⟩,
   ⟨(some 24), .faddr 1 (.t 23), [20], none⟩,
   ⟨(some 25), .load none (.t 24), [21], none⟩,
   ⟨(some 26), .build [(.p (.str [])), (.p (.str []))] [(0, 1, (.t 22)), (1, 1, (.t 25))], [19, 22], none⟩,
   ⟨(some 27), .faddr 17 (.t 1), [], none⟩,
   ⟨(some 28), .load none (.t 27), [24], none⟩,
   ⟨(some 29), .faddr 18 (.t 1), [], none⟩,
   ⟨(some 30), .load none (.t 29), [26], none⟩,
   ⟨(some 31), .faddr 19 (.t 1), [], none⟩,
   ⟨(some 32), .load none (.t 31), [28], none⟩,
   ⟨(some 33), .build [(.p (.int Go.IntKind.u32 0)), (.p (.int Go.IntKind.u32 0)), (.p (.int Go.IntKind.u64 0)), (.p (.int Go.IntKind.u64 0)), (.p (.int Go.IntKind.u32 0)), (.p (.int Go.IntKind.u32 0)), (.p (.int Go.IntKind.i64 0)), (.p (.int Go.IntKind.i64 0)), (.p (.int Go.IntKind.i64 0)), (.p (.int Go.IntKind.i64 0)), (.p (.int Go.IntKind.i64 0)), (.p (.int Go.IntKind.i64 0)), (.p (.int Go.IntKind.i64 0)), (.p (.str [])), (.p (.str [])), (.p (.str [])), (.p (.str [])), (.p (.int Go.IntKind.i64 0)), (.p (.int Go.IntKind.i64 0)), (.p .nils)] [(0, 1, (.t 4)), (1, 1, (.t 6)), (2, 7, (.t 8)), (9, 2, (.t 10)), (11, 2, (.t 12)), (13, 2, (.t 19)), (15, 2, (.t 26)), (17, 1, (.t 28)), (18, 1, (.t 30)), (19, 1, (.t 32))], [1, 3, 5, 7, 9, 16, 23, 25, 27, 29], none⟩,
   ⟨none, .store 20 (.t 2) (.t 33), [30, 0, 1, 2, 3, 4, 5, 6, 7, 8, 9, 10, 11, 12, 13, 14, 15, 16, 17, 18, 19, 20, 21, 22, 23, 24, 25, 26, 27, 28, 29, 30], none⟩]
def vf20 : VFun where
  vars := [0]
  boxes := [1, 2]
  mv := []
  res := [(.cell 2 (some 20))]
  body := (.seq (.region none vf20r0 [1, 2] [1, 2])
 (.seq (.region none vf20r1 [2] [2])
 .ret))

def vf21r0 : List VOper :=
  [⟨(some 3), .box false 7 (.t 1), [], none⟩,
   ⟨(some 4), .alloc false [(.int Go.IntKind.u32 0), (.int Go.IntKind.u32 0), (.int Go.IntKind.u64 0), (.int Go.IntKind.u64 0), (.int Go.IntKind.u32 0), (.int Go.IntKind.u32 0), (.int Go.IntKind.i64 0), (.int Go.IntKind.i64 0), (.int Go.IntKind.i64 0), (.int Go.IntKind.i64 0), (.int Go.IntKind.i64 0), (.int Go.IntKind.i64 0), (.int Go.IntKind.i64 0), (.str []), (.str []), (.str []), (.str []), (.int Go.IntKind.i64 0), (.int Go.IntKind.i64 0), .nils], [], none⟩,
   ⟨(some 5), .asg (.c (.p (.bool false))), [], none⟩]
def vf21r1 : List VOper :=
  [⟨(some 8), .mv (.t 0), [], none⟩,
   ⟨(some 9), .call 11 [(.t 8)], [0], none⟩,
   ⟨(some 6), .asg (.t 9), [1, 1, 0, 1], none⟩]
def vf21r2 : List VOper :=
  [⟨(some 10), .mv (.t 6), [], none⟩,
   ⟨(some 11), .mkfn 45 [(.t 3)], [], none⟩,
   ⟨(some 12), .call 44 [(.t 10), (.t 11)], [0, 1], none⟩,
   ⟨(some 7), .asg (.t 12), [2, 2, 0, 1, 2], none⟩]
def vf21r3 : List VOper :=
  [⟨(some 13), .mv (.t 7), [], none⟩,
   ⟨(some 14), .bin Go.BinOp.geq .no (.t 13) (.c (.p (.int Go.IntKind.i64 0))), [0], none⟩]
def vf21r4 : List VOper :=
  [⟨(some 15), .mv (.t 6), [], none⟩,
   ⟨(some 16), .mv (.t 7), [], none⟩,
   ⟨(some 17), .iaddrS 20 (.t 15) (.t 16), [0, 1], none⟩,
   ⟨(some 18), .load (some 20) (.t 17), [2], none⟩,
   ⟨none, .store 20 (.t 4) (.t 18), [3, 0, 1, 2, 3], none⟩,
   ⟨(some 5), .asg (.c (.p (.bool true))), [4, 0, 1, 2, 3, 4], none⟩]
def vf21r5 : List VOper :=
  [⟨(some 19), .build [(.p (.int Go.IntKind.u32 0)), (.p (.int Go.IntKind.u32 0)), (.p (.int Go.IntKind.u64 0)), (.p (.int Go.IntKind.u64 0)), (.p (.int Go.IntKind.u32 0)), (.p (.int Go.IntKind.u32 0)), (.p (.int Go.IntKind.i64 0)), (.p (.int Go.IntKind.i64 0)), (.p (.int Go.IntKind.i64 0)), (.p (.int Go.IntKind.i64 0)), (.p (.int Go.IntKind.i64 0)), (.p (.int Go.IntKind.i64 0)), (.p (.int Go.IntKind.i64 0)), (.p (.str [])), (.p (.str [])), (.p (.str [])), (.p (.str [])), (.p (.int Go.IntKind.i64 0)), (.p (.int Go.IntKind.i64 0)), (.p .nils)] [], [], none⟩,
   ⟨none, .store 20 (.t 4) (.t 19), [0, 0], none⟩,
   ⟨(some 5), .asg (.c (.p (.bool false))), [1, 0, 1], none⟩]
def vf21 : VFun where
  vars := [0, 1]
  boxes := [3, 4]
  mv := []
  res := [(.cell 4 (some 20)), (.t 5)]
  body := (.seq (.region none vf21r0 [0, 3, 4] [0, 3, 4])
 (.seq (.region none vf21r1 [3, 4, 6, 9] [3, 4, 6, 9])
 (.seq (.seq (.region none vf21r2 [4, 6, 7, 9, 12] [3, 4, 6, 7, 9, 12])
 (.seq (.region none vf21r3 [4, 6, 7, 9, 12, 14] [3, 4, 6, 7, 9, 12, 14])
 (.cond (.t 14) (.seq (.region none vf21r4 [4, 5] [3, 4, 5])
 .ret)
 .skip)))
 (.seq (.region none vf21r5 [4, 5] [3, 4, 5])
 .ret))))

def vf22r0 : List VOper :=
  [⟨(some 4), .alloc false [(.int Go.IntKind.u32 0), (.int Go.IntKind.u32 0), (.int Go.IntKind.u64 0), (.int Go.IntKind.u64 0), (.int Go.IntKind.u32 0), (.int Go.IntKind.u32 0), (.int Go.IntKind.i64 0), (.int Go.IntKind.i64 0), (.int Go.IntKind.i64 0), (.int Go.IntKind.i64 0), (.int Go.IntKind.i64 0), (.int Go.IntKind.i64 0), (.int Go.IntKind.i64 0), (.str []), (.str []), (.str []), (.str []), (.int Go.IntKind.i64 0), (.int Go.IntKind.i64 0), .nils], [], none⟩,
   ⟨(some 5), .asg (.c (.p (.bool false))), [], none⟩]
def vf22r1 : List VOper :=
  [⟨(some 8), .mv (.t 0), [], none⟩,
   ⟨(some 9), .bin Go.BinOp.eql .ptr (.t 8) (.c .nilp), [0], none⟩]
def vf22r2 : List VOper :=
  [⟨(some 10), .build [(.p (.int Go.IntKind.u32 0)), (.p (.int Go.IntKind.u32 0)), (.p (.int Go.IntKind.u64 0)), (.p (.int Go.IntKind.u64 0)), (.p (.int Go.IntKind.u32 0)), (.p (.int Go.IntKind.u32 0)), (.p (.int Go.IntKind.i64 0)), (.p (.int Go.IntKind.i64 0)), (.p (.int Go.IntKind.i64 0)), (.p (.int Go.IntKind.i64 0)), (.p (.int Go.IntKind.i64 0)), (.p (.int Go.IntKind.i64 0)), (.p (.int Go.IntKind.i64 0)), (.p (.str [])), (.p (.str [])), (.p (.str [])), (.p (.str [])), (.p (.int Go.IntKind.i64 0)), (.p (.int Go.IntKind.i64 0)), (.p .nils)] [], [], none⟩,
   ⟨none, .store 20 (.t 4) (.t 10), [0, 0], none⟩,
   ⟨(some 5), .asg (.c (.p (.bool false))), [1, 0, 1], none⟩]
def vf22r3 : List VOper :=
  [⟨(some 12), .mv (.t 0), [], none⟩,
   ⟨(some 13), .nilck (.t 12), [0], none⟩,
   ⟨(some 14), .faddr 2 (.t 13), [1], none⟩,
   ⟨(some 15), .load none (.t 14), [2], none⟩,
   ⟨(some 16), .mv (.t 1), [], none⟩,
   ⟨(some 17), .call 46 [(.t 15), (.t 16)], [3, 4], none⟩,
   ⟨(some 11), .mv (.t 17), [5], none⟩,
   ⟨(some 18), .ext (.t 11) 0, [6], none⟩,
   ⟨(some 19), .ext (.t 11) 1, [6], none⟩,
   ⟨(some 6), .alloc false [(.int Go.IntKind.u32 0), (.int Go.IntKind.u32 0), (.int Go.IntKind.u64 0), (.int Go.IntKind.u64 0), (.int Go.IntKind.u32 0), (.int Go.IntKind.u32 0), (.int Go.IntKind.i64 0), (.int Go.IntKind.i64 0), (.int Go.IntKind.i64 0), (.int Go.IntKind.i64 0), (.int Go.IntKind.i64 0), (.int Go.IntKind.i64 0), (.int Go.IntKind.i64 0), (.str []), (.str []), (.str []), (.str []), (.int Go.IntKind.i64 0), (.int Go.IntKind.i64 0), .nils], [], none⟩,
   ⟨none, .store 20 (.t 6) (.t 18), [9, 7, 5, 0, 1, 2, 3, 4, 5, 6, 7, 9], none⟩,
   ⟨(some 7), .asg (.t 19), [8, 10, 0, 1, 2, 3, 4, 5, 6, 7, 8, 9, 10], none⟩]
def vf22r4 : List VOper :=
  [⟨(some 20), .load (some 20) (.t 6), [], none⟩,
   ⟨(some 21), .call 36 [(.t 20)], [0], none⟩,
   ⟨(some 22), .mv (.t 7), [], none⟩,
   ⟨none, .store 20 (.t 4) (.t 21), [1, 1, 0, 1], none⟩,
   ⟨(some 5), .asg (.t 22), [2, 3, 0, 1, 2, 3], none⟩]
def vf22 : VFun where
  vars := [0, 1]
  boxes := [4, 6]
  mv := []
  res := [(.cell 4 (some 20)), (.t 5)]
  body := (.seq (.region none vf22r0 [0, 1, 4] [0, 1, 4])
 (.seq (.seq (.region none vf22r1 [0, 1, 4, 9] [0, 1, 4, 9])
 (.cond (.t 9) (.seq (.region none vf22r2 [4, 5, 7, 19, 22] [4, 5, 7, 19, 22])
 .ret)
 .skip))
 (.seq (.region none vf22r3 [4, 6, 7, 19] [4, 6, 7, 19])
 (.seq (.region none vf22r4 [4, 5, 7, 19, 22] [4, 5, 7, 19, 22])
 .ret))))

def vf23r0 : List VOper :=
  [⟨(some 4), .asg (.c (.p .nils)), [], none⟩]
def vf23r1 : List VOper :=
  [⟨(some 5), .mv (.t 0), [], none⟩,
   ⟨(some 6), .bin Go.BinOp.eql .ptr (.t 5) (.c .nilp), [0], none⟩,
   ⟨(some 7), .mv (.t 6), [1], none⟩,
   ⟨(some 8), .mv (.t 1), [2], (some (2, false))⟩,
   ⟨(some 9), .mv (.t 0), [2], (some (2, false))⟩,
   ⟨(some 10), .nilck (.t 9), [4, 2], (some (2, false))⟩,
   ⟨(some 11), .faddr 0 (.t 10), [5, 2], (some (2, false))⟩,
   ⟨(some 12), .load none (.t 11), [6, 2], (some (2, false))⟩,
   ⟨(some 13), .bin Go.BinOp.leq .no (.t 8) (.t 12), [3, 7, 2], (some (2, false))⟩,
   ⟨(some 14), .pick (.t 7) (.c (.p (.bool true))) (.t 13), [2, 8], none⟩]
def vf23r2 : List VOper :=
  [⟨(some 4), .asg (.c (.p .nils)), [], none⟩]
def vf23r3 : List VOper :=
  [⟨(some 15), .mv (.t 0), [], none⟩,
   ⟨(some 16), .mv (.t 1), [], none⟩,
   ⟨(some 17), .nilck (.t 15), [0, 0, 1], none⟩,
   ⟨(some 18), .faddr 0 (.t 17), [2, 0, 1], none⟩,
   ⟨none, .store 1 (.t 18) (.t 16), [3, 1, 0, 1], none⟩]
def vf23r4 : List VOper :=
  [⟨(some 19), .mv (.t 0), [], none⟩,
   ⟨(some 20), .nilck (.t 19), [0], none⟩,
   ⟨(some 21), .faddr 2 (.t 20), [1], none⟩,
   ⟨(some 22), .load none (.t 21), [2], none⟩,
   ⟨(some 23), .call 47 [(.t 22), (.c (.fn 48 []))], [3], none⟩,
   ⟨(some 4), .asg (.t 23), [4, 4, 0, 1, 2, 3, 4], none⟩]
def vf23 : VFun where
  vars := [0, 1, 8, 9, 10, 11, 12, 13]
  boxes := []
  mv := []
  res := [(.t 4)]
  body := (.seq (.region none vf23r0 [0, 1, 8, 9, 10, 11, 12, 13] [0, 1, 8, 9, 10, 11, 12, 13])
 (.seq (.seq (.region none vf23r1 [0, 1, 14] [0, 1, 14])
 (.cond (.t 14) (.seq (.region none vf23r2 [4, 23] [4, 23])
 .ret)
 .skip))
 (.seq (.region none vf23r3 [0] [0])
 (.seq (.region none vf23r4 [4, 23] [4, 23])
 .ret))))

def vf24r0 : List VOper :=
  [⟨(some 1), .box false 29 (.t 0), [], none⟩,
   ⟨(some 2), .alloc false [(.int Go.IntKind.i64 0), (.int Go.IntKind.i64 0), (.int Go.IntKind.u32 0), (.int Go.IntKind.u32 0), (.int Go.IntKind.i64 0), (.int Go.IntKind.i64 0), (.str []), (.str []), (.int Go.IntKind.u64 0), (.int Go.IntKind.u64 0), (.int Go.IntKind.u64 0), (.int Go.IntKind.u32 0), (.int Go.IntKind.i64 0), (.int Go.IntKind.i64 0), (.int Go.IntKind.i64 0), (.int Go.IntKind.i64 0), (.int Go.IntKind.i64 0), (.str []), (.str []), (.str []), (.str []), (.int Go.IntKind.u64 0), (.int Go.IntKind.u64 0), (.int Go.IntKind.u32 0), (.int Go.IntKind.u32 0), (.int Go.IntKind.i64 0), (.int Go.IntKind.i64 0), (.int Go.IntKind.i64 0), .nils], [], none⟩]
def vf24r1 : List VOper :=
  [⟨(some 3), .faddr 0 (.t 1), [], none⟩,
   ⟨(some 4), .load none (.t 3), [0], none⟩,
   ⟨(some 5), .faddr 1 (.t 1), [], none⟩,
   ⟨(some 6), .load none (.t 5), [2], none⟩,
   ⟨(some 7), .faddr 2 (.t 1), [], none⟩,
   ⟨(some 8), .load none (.t 7), [4], none⟩,
   ⟨(some 9), .faddr 3 (.t 1), [], none⟩,
   ⟨(some 10), .load none (.t 9), [6], none⟩,
   ⟨(some 11), .faddr 4 (.t 1), [], none⟩,
   ⟨(some 12), .load none (.t 11), [8], none⟩,
   ⟨(some 13), .faddr 5 (.t 1), [], none⟩,
   ⟨(some 14), .load none (.t 13), [10], none⟩,
   ⟨(some 15), .faddr 6 (.t 1), [], none⟩,
   ⟨(some 16), .load none (.t 15), [12], none⟩,
   ⟨(some 17), .faddr 7 (.t 1), [], none⟩,
   ⟨(some 18), .load none (.t 17), [14], none⟩,
   ⟨(some 19), .faddr 8 (.t 1), [], none⟩,
   ⟨(some 20), .load none (.t 19), [16], none⟩,
   ⟨(some 21), .faddr 9 (.t 1), [], none⟩,
   ⟨(some 22), .load none (.t 21), [18], none⟩,
   ⟨(some 23), .faddr 10 (.t 1), [], none⟩,
   ⟨(some 24), .load none (.t 23), [20], none⟩,
   ⟨(some 25), .faddr 11 (.t 1), [], none⟩,
   ⟨(some 26), .load none (.t 25), [22], none⟩,
   ⟨(some 27), .faddr 12 (.t 1), [], none⟩,
   ⟨(some 28), .load none (.t 27), [24], none⟩,
   ⟨(some 29), .faddr 13 (.t 1), [], none⟩,
   ⟨(some 30), .load (some 2) (.t 29), [26], none⟩,
   ⟨(some 31), .faddr 15 (.t 1), [], none⟩,
   ⟨(some 32), .load (some 2) (.t 31), [28], none⟩,
   ⟨(some 33), .faddr 17 (.t 1), [], none⟩,
   ⟨(some 34), .faddr 0 (.t 33), [30], none⟩,
   ⟨(some 35), .load none (.t 34), [31], none⟩,
   ⟨(some 36), .faddr 17 (.t 1), [], none⟩,
   ⟨(some 37), .faddr 1 (.t 36), [33], none⟩,
   ⟨(some 38), .load none (.t 37), [34], none⟩,
   ⟨(some 39), .build [(.p (.str [])), (.p (.str []))] [(0, 1, (.t 35)), (1, 1, (.t 38))], [32, 35], none⟩,
   ⟨(some 40), .faddr 19 (.t 1), [], none⟩,
   ⟨(some 41), .faddr 0 (.t 40), [37], none⟩,
   ⟨(some 42), .load none (.t 41), [38], none⟩,
   ⟨(some 43), .faddr 19 (.t 1), [], none⟩,
   ⟨(some 44), .faddr 1 (.t 43), [40], none⟩,
   ⟨(some 45), .load none (.t 44), [41], none⟩,
   ⟨(some 46), .build [(.p (.str [])), (.p (.str []))] [(0, 1, (.t 42)), (1, 1, (.t 45))], [39, 42], none⟩,
   ⟨(some 47), .faddr 21 (.t 1), [], none⟩,
   ⟨(some 48), .load (some 7) (.t 47), [44], none⟩,
   ⟨(some 49), .faddr 28 (.t 1), [], none⟩,
   ⟨(some 50), .load none (.t 49), [46], none⟩,
   ⟨(some 51), .build [(.p (.int Go.IntKind.i64 0)), (.p (.int Go.IntKind.i64 0)), (.p (.int Go.IntKind.u32 0)), (.p (.int Go.IntKind.u32 0)), (.p (.int Go.IntKind.i64 0)), (.p (.int Go.IntKind.i64 0)), (.p (.str [])), (.p (.str [])), (.p (.int Go.IntKind.u64 0)), (.p (.int Go.IntKind.u64 0)), (.p (.int Go.IntKind.u64 0)), (.p (.int Go.IntKind.u32 0)), (.p (.int Go.IntKind.i64 0)), (.p (.int Go.IntKind.i64 0)), (.p (.int Go.IntKind.i64 0)), (.p (.int Go.IntKind.i64 0)), (.p (.int Go.IntKind.i64 0)), (.p (.str [])), (.p (.str [])), (.p (.str [])), (.p (.str [])), (.p (.int Go.IntKind.u64 0)), (.p (.int Go.IntKind.u64 0)), (.p (.int Go.IntKind.u32 0)), (.p (.int Go.IntKind.u32 0)), (.p (.int Go.IntKind.i64 0)), (.p (.int Go.IntKind.i64 0)), (.p (.int Go.IntKind.i64 0)), (.p .nils)] [(0, 1, (.t 4)), (1, 1, (.t 6)), (2, 1, (.t 8)), (3, 1, (.t 10)), (4, 1, (.t 12)), (5, 1, (.t 14)), (6, 1, (.t 16)), (7, 1, (.t 18)), (8, 1, (.t 20)), (9, 1, (.t 22)), (10, 1, (.t 24)), (11, 1, (.t 26)), (12, 1, (.t 28)), (13, 2, (.t 30)), (15, 2, (.t 32)), (17, 2, (.t 39)), (19, 2, (.t 46)), (21, 7, (.t 48)), (28, 1, (.t 50))], [1, 3, 5, 7, 9, 11, 13, 15, 17, 19, 21, 23, 25, 27, 29, 36, 43, 45, 47], none⟩,
   ⟨none, .store 29 (.t 2) (.t 51), [48, 0, 1, 2, 3, 4, 5, 6, 7, 8, 9, 10, 11, 12, 13, 14, 15, 16, 17, 18, 19, 20, 21, 22, 23, 24, 25, 26, 27, 28, 29, 30, 31, 32, 33, 34, 35, 36, 37, 38, 39, 40, 41, 42, 43, 44, 45, 46, 47, 48], none⟩]
def vf24 : VFun where
  vars := [0]
  boxes := [1, 2]
  mv := []
  res := [(.cell 2 (some 29))]
  body := (.seq (.region none vf24r0 [1, 2] [1, 2])
 (.seq (.region none vf24r1 [2] [2])
 .ret))

def vf25r0 : List VOper :=
  [⟨(some 2), .box false 20 (.t 0), [], none⟩,
   ⟨(some 4), .alloc false [(.int Go.IntKind.i64 0), (.int Go.IntKind.i64 0), (.int Go.IntKind.u32 0), (.int Go.IntKind.u32 0), (.int Go.IntKind.i64 0), (.int Go.IntKind.i64 0), (.str []), (.str []), (.int Go.IntKind.u64 0), (.int Go.IntKind.u64 0), (.int Go.IntKind.u64 0), (.int Go.IntKind.u32 0), (.int Go.IntKind.i64 0), (.int Go.IntKind.i64 0), (.int Go.IntKind.i64 0), (.int Go.IntKind.i64 0), (.int Go.IntKind.i64 0), (.str []), (.str []), (.str []), (.str []), (.int Go.IntKind.u64 0), (.int Go.IntKind.u64 0), (.int Go.IntKind.u32 0), (.int Go.IntKind.u32 0), (.int Go.IntKind.i64 0), (.int Go.IntKind.i64 0), (.int Go.IntKind.i64 0), .nils], [], none⟩]
def vf25r1 : List VOper :=
  [⟨(some 5), .mv (.t 1), [], none⟩,
   ⟨(some 6), .faddr 1 (.t 2), [], none⟩,
   ⟨(some 7), .load none (.t 6), [1], none⟩,
   ⟨(some 8), .faddr 0 (.t 2), [], none⟩,
   ⟨(some 9), .load none (.t 8), [3], none⟩,
   ⟨(some 10), .faddr 18 (.t 2), [], none⟩,
   ⟨(some 11), .load none (.t 10), [5], none⟩,
   ⟨(some 12), .faddr 9 (.t 2), [], none⟩,
   ⟨(some 13), .load (some 2) (.t 12), [7], none⟩,
   ⟨(some 14), .faddr 11 (.t 2), [], none⟩,
   ⟨(some 15), .load (some 2) (.t 14), [9], none⟩,
   ⟨(some 16), .faddr 13 (.t 2), [], none⟩,
   ⟨(some 17), .load (some 2) (.t 16), [11], none⟩,
   ⟨(some 18), .faddr 15 (.t 2), [], none⟩,
   ⟨(some 19), .load (some 2) (.t 18), [13], none⟩,
   ⟨(some 20), .faddr 2 (.t 2), [], none⟩,
   ⟨(some 21), .load (some 7) (.t 20), [15], none⟩,
   ⟨(some 22), .faddr 19 (.t 2), [], none⟩,
   ⟨(some 23), .load none (.t 22), [17], none⟩,
   ⟨(some 24), .call 49 [(.t 23)], [18], none⟩,
   ⟨(some 25), .build [(.p (.int Go.IntKind.i64 0)), (.p (.int Go.IntKind.i64 0)), (.p (.int Go.IntKind.u32 0)), (.p (.int Go.IntKind.u32 0)), (.p (.int Go.IntKind.i64 0)), (.p (.int Go.IntKind.i64 0)), (.p (.str [])), (.p (.str [])), (.p (.int Go.IntKind.u64 0)), (.p (.int Go.IntKind.u64 0)), (.p (.int Go.IntKind.u64 0)), (.p (.int Go.IntKind.u32 0)), (.p (.int Go.IntKind.i64 0)), (.p (.int Go.IntKind.i64 0)), (.p (.int Go.IntKind.i64 0)), (.p (.int Go.IntKind.i64 0)), (.p (.int Go.IntKind.i64 0)), (.p (.str [])), (.p (.str [])), (.p (.str [])), (.p (.str [])), (.p (.int Go.IntKind.u64 0)), (.p (.int Go.IntKind.u64 0)), (.p (.int Go.IntKind.u32 0)), (.p (.int Go.IntKind.u32 0)), (.p (.int Go.IntKind.i64 0)), (.p (.int Go.IntKind.i64 0)), (.p (.int Go.IntKind.i64 0)), (.p .nils)] [(0, 1, (.c (.p (.int Go.IntKind.i64 10)))), (1, 1, (.t 5)), (2, 1, (.t 7)), (3, 1, (.t 9)), (5, 1, (.t 11)), (13, 2, (.t 13)), (15, 2, (.t 15)), (17, 2, (.t 17)), (19, 2, (.t 19)), (21, 7, (.t 21)), (28, 1, (.t 24))], [0, 2, 4, 6, 8, 10, 12, 14, 16, 19], none⟩,
   ⟨none, .store 29 (.t 4) (.t 25), [20, 19, 0, 1, 2, 3, 4, 5, 6, 7, 8, 9, 10, 11, 12, 13, 14, 15, 16, 17, 18, 19, 20], none⟩]
def vf25 : VFun where
  vars := [0, 1]
  boxes := [2, 4]
  mv := []
  res := [(.cell 4 (some 29))]
  body := (.seq (.region none vf25r0 [1, 2, 4] [1, 2, 4])
 (.seq (.region (some ([21], (.one 0 (.one 1 (.one 2 (.one 3 (.one 4 (.one 5 (.one 6 (.one 7 (.one 8 (.one 9 (.one 10 (.one 11 (.one 12 (.one 13 (.one 14 (.one 15 (.one 16 (.one 17 (.one 18 (.one 19 (.one 20 (.one 21 .fin)))))))))))))))))))))))) vf25r1 [4] [4])
 .ret))

def vf26r0 : List VOper :=
  [⟨(some 2), .box false 29 (.t 0), [], none⟩,
   ⟨(some 3), .box false 29 (.t 1), [], none⟩,
   ⟨(some 4), .asg (.c (.p (.bool false))), [], none⟩]
def vf26r1 : List VOper :=
  [⟨(some 5), .faddr 28 (.t 2), [], none⟩,
   ⟨(some 6), .load none (.t 5), [0], none⟩,
   ⟨(some 7), .faddr 28 (.t 3), [], none⟩,
   ⟨(some 8), .load none (.t 7), [2], none⟩,
   ⟨(some 9), .call 50 [(.t 6), (.t 8)], [1, 3], none⟩,
   ⟨(some 10), .un Go.UnOp.not (.t 9), [4], none⟩]
def vf26r2 : List VOper :=
  [⟨(some 4), .asg (.c (.p (.bool false))), [], none⟩]
def vf26r3 : List VOper :=
  [⟨(some 11), .faddr 0 (.t 2), [], none⟩,
   ⟨(some 12), .load none (.t 11), [0], none⟩,
   ⟨(some 13), .faddr 0 (.t 3), [], none⟩,
   ⟨(some 14), .load none (.t 13), [2], none⟩,
   ⟨(some 15), .bin Go.BinOp.eql .no (.t 12) (.t 14), [1, 3], none⟩,
   ⟨(some 16), .mv (.t 15), [4], none⟩,
   ⟨(some 17), .faddr 1 (.t 2), [5], (some (5, true))⟩,
   ⟨(some 18), .load none (.t 17), [6, 5], (some (5, true))⟩,
   ⟨(some 19), .faddr 1 (.t 3), [5], (some (5, true))⟩,
   ⟨(some 20), .load none (.t 19), [8, 5], (some (5, true))⟩,
   ⟨(some 21), .bin Go.BinOp.eql .no (.t 18) (.t 20), [7, 9, 5], (some (5, true))⟩,
   ⟨(some 22), .pick (.t 16) (.t 21) (.c (.p (.bool false))), [5, 10], none⟩,
   ⟨(some 23), .mv (.t 22), [11, 5], none⟩,
   ⟨(some 24), .faddr 2 (.t 2), [12], (some (12, true))⟩,
   ⟨(some 25), .load none (.t 24), [13, 12], (some (12, true))⟩,
   ⟨(some 26), .faddr 2 (.t 3), [12], (some (12, true))⟩,
   ⟨(some 27), .load none (.t 26), [15, 12], (some (12, true))⟩,
   ⟨(some 28), .bin Go.BinOp.eql .no (.t 25) (.t 27), [14, 16, 12], (some (12, true))⟩,
   ⟨(some 29), .pick (.t 23) (.t 28) (.c (.p (.bool false))), [12, 17], none⟩,
   ⟨(some 30), .mv (.t 29), [18, 12], none⟩,
   ⟨(some 31), .faddr 3 (.t 2), [19], (some (19, true))⟩,
   ⟨(some 32), .load none (.t 31), [20, 19], (some (19, true))⟩,
   ⟨(some 33), .faddr 3 (.t 3), [19], (some (19, true))⟩,
   ⟨(some 34), .load none (.t 33), [22, 19], (some (19, true))⟩,
   ⟨(some 35), .bin Go.BinOp.eql .no (.t 32) (.t 34), [21, 23, 19], (some (19, true))⟩,
   ⟨(some 36), .pick (.t 30) (.t 35) (.c (.p (.bool false))), [19, 24], none⟩,
   ⟨(some 37), .mv (.t 36), [25, 19], none⟩,
   ⟨(some 38), .faddr 4 (.t 2), [26], (some (26, true))⟩,
   ⟨(some 39), .load none (.t 38), [27, 26], (some (26, true))⟩,
   ⟨(some 40), .faddr 4 (.t 3), [26], (some (26, true))⟩,
   ⟨(some 41), .load none (.t 40), [29, 26], (some (26, true))⟩,
   ⟨(some 42), .bin Go.BinOp.eql .no (.t 39) (.t 41), [28, 30, 26], (some (26, true))⟩,
   ⟨(some 43), .pick (.t 37) (.t 42) (.c (.p (.bool false))), [26, 31], none⟩,
   ⟨(some 44), .mv (.t 43), [32, 26], none⟩,
   ⟨(some 45), .faddr 5 (.t 2), [33], (some (33, true))⟩,
   ⟨(some 46), .load none (.t 45), [34, 33], (some (33, true))⟩,
   ⟨(some 47), .faddr 5 (.t 3), [33], (some (33, true))⟩,
   ⟨(some 48), .load none (.t 47), [36, 33], (some (33, true))⟩,
   ⟨(some 49), .bin Go.BinOp.eql .no (.t 46) (.t 48), [35, 37, 33], (some (33, true))⟩,
   ⟨(some 50), .pick (.t 44) (.t 49) (.c (.p (.bool false))), [33, 38], none⟩,
   ⟨(some 51), .mv (.t 50), [39, 33], none⟩,
   ⟨(some 52), .faddr 6 (.t 2), [40], (some (40, true))⟩,
   ⟨(some 53), .load none (.t 52), [41, 40], (some (40, true))⟩,
   ⟨(some 54), .faddr 6 (.t 3), [40], (some (40, true))⟩,
   ⟨(some 55), .load none (.t 54), [43, 40], (some (40, true))⟩,
   ⟨(some 56), .bin Go.BinOp.eql .no (.t 53) (.t 55), [42, 44, 40], (some (40, true))⟩,
   ⟨(some 57), .pick (.t 51) (.t 56) (.c (.p (.bool false))), [40, 45], none⟩,
   ⟨(some 58), .mv (.t 57), [46, 40], none⟩,
   ⟨(some 59), .faddr 7 (.t 2), [47], (some (47, true))⟩,
   ⟨(some 60), .load none (.t 59), [48, 47], (some (47, true))⟩,
   ⟨(some 61), .faddr 7 (.t 3), [47], (some (47, true))⟩,
   ⟨(some 62), .load none (.t 61), [50, 47], (some (47, true))⟩,
   ⟨(some 63), .bin Go.BinOp.eql .no (.t 60) (.t 62), [49, 51, 47], (some (47, true))⟩,
   ⟨(some 64), .pick (.t 58) (.t 63) (.c (.p (.bool false))), [47, 52], none⟩,
   ⟨(some 65), .mv (.t 64), [53, 47], none⟩,
   ⟨(some 66), .faddr 8 (.t 2), [54], (some (54, true))⟩,
   ⟨(some 67), .load none (.t 66), [55, 54], (some (54, true))⟩,
   ⟨(some 68), .faddr 8 (.t 3), [54], (some (54, true))⟩,
   ⟨(some 69), .load none (.t 68), [57, 54], (some (54, true))⟩,
   ⟨(some 70), .bin Go.BinOp.eql .no (.t 67) (.t 69), [56, 58, 54], (some (54, true))⟩,
   ⟨(some 71), .pick (.t 65) (.t 70) (.c (.p (.bool false))), [54, 59], none⟩,
   ⟨(some 72), .mv (.t 71), [60, 54], none⟩,
   ⟨(some 73), .faddr 9 (.t 2), [61], (some (61, true))⟩,
   ⟨(some 74), .load none (.t 73), [62, 61], (some (61, true))⟩,
   ⟨(some 75), .faddr 9 (.t 3), [61], (some (61, true))⟩,
   ⟨(some 76), .load none (.t 75), [64, 61], (some (61, true))⟩,
   ⟨(some 77), .bin Go.BinOp.eql .no (.t 74) (.t 76), [63, 65, 61], (some (61, true))⟩,
   ⟨(some 78), .pick (.t 72) (.t 77) (.c (.p (.bool false))), [61, 66], none⟩,
   ⟨(some 79), .mv (.t 78), [67, 61], none⟩,
   ⟨(some 80), .faddr 10 (.t 2), [68], (some (68, true))⟩,
   ⟨(some 81), .load none (.t 80), [69, 68], (some (68, true))⟩,
   ⟨(some 82), .faddr 10 (.t 3), [68], (some (68, true))⟩,
   ⟨(some 83), .load none (.t 82), [71, 68], (some (68, true))⟩,
   ⟨(some 84), .bin Go.BinOp.eql .no (.t 81) (.t 83), [70, 72, 68], (some (68, true))⟩,
   ⟨(some 85), .pick (.t 79) (.t 84) (.c (.p (.bool false))), [68, 73], none⟩,
   ⟨(some 86), .mv (.t 85), [74, 68], none⟩,
   ⟨(some 87), .faddr 11 (.t 2), [75], (some (75, true))⟩,
   ⟨(some 88), .load none (.t 87), [76, 75], (some (75, true))⟩,
   ⟨(some 89), .faddr 11 (.t 3), [75], (some (75, true))⟩,
   ⟨(some 90), .load none (.t 89), [78, 75], (some (75, true))⟩,
   ⟨(some 91), .bin Go.BinOp.eql .no (.t 88) (.t 90), [77, 79, 75], (some (75, true))⟩,
   ⟨(some 92), .pick (.t 86) (.t 91) (.c (.p (.bool false))), [75, 80], none⟩,
   ⟨(some 93), .mv (.t 92), [81, 75], none⟩,
   ⟨(some 94), .faddr 12 (.t 2), [82], (some (82, true))⟩,
   ⟨(some 95), .load none (.t 94), [83, 82], (some (82, true))⟩,
   ⟨(some 96), .faddr 12 (.t 3), [82], (some (82, true))⟩,
   ⟨(some 97), .load none (.t 96), [85, 82], (some (82, true))⟩,
   ⟨(some 98), .bin Go.BinOp.eql .no (.t 95) (.t 97), [84, 86, 82], (some (82, true))⟩,
   ⟨(some 99), .pick (.t 93) (.t 98) (.c (.p (.bool false))), [82, 87], none⟩,
   ⟨(some 100), .mv (.t 99), [88, 82], none⟩,
   ⟨(some 101), .faddr 13 (.t 2), [89], (some (89, true))⟩,
   ⟨(some 102), .load (some 2) (.t 101), [90, 89], (some (89, true))⟩,
   ⟨(some 103), .faddr 13 (.t 3), [89], (some (89, true))⟩,
   ⟨(some 104), .load (some 2) (.t 103), [92, 89], (some (89, true))⟩,
   ⟨(some 105), .bin Go.BinOp.eql (.struct [.int, .int]) (.t 102) (.t 104), [91, 93, 89], (some (89, true))⟩,
   ⟨(some 106), .pick (.t 100) (.t 105) (.c (.p (.bool false))), [89, 94], none⟩,
   ⟨(some 107), .mv (.t 106), [95, 89], none⟩,
   ⟨(some 108), .faddr 15 (.t 2), [96], (some (96, true))⟩,
   ⟨(some 109), .load (some 2) (.t 108), [97, 96], (some (96, true))⟩,
   ⟨(some 110), .faddr 15 (.t 3), [96], (some (96, true))⟩,
   ⟨(some 111), .load (some 2) (.t 110), [99, 96], (some (96, true))⟩,
   ⟨(some 112), .bin Go.BinOp.eql (.struct [.int, .int]) (.t 109) (.t 111), [98, 100, 96], (some (96, true))⟩,
   ⟨(some 113), .pick (.t 107) (.t 112) (.c (.p (.bool false))), [96, 101], none⟩,
   ⟨(some 114), .mv (.t 113), [102, 96], none⟩,
   ⟨(some 115), .faddr 17 (.t 2), [103], (some (103, true))⟩,
   ⟨(some 116), .load (some 2) (.t 115), [104, 103], (some (103, true))⟩,
   ⟨(some 117), .faddr 17 (.t 3), [103], (some (103, true))⟩,
   ⟨(some 118), .load (some 2) (.t 117), [106, 103], (some (103, true))⟩,
   ⟨(some 119), .bin Go.BinOp.eql (.struct [.str, .str]) (.t 116) (.t 118), [105, 107, 103], (some (103, true))⟩,
   ⟨(some 120), .pick (.t 114) (.t 119) (.c (.p (.bool false))), [103, 108], none⟩,
   ⟨(some 121), .mv (.t 120), [109, 103], none⟩,
   ⟨(some 122), .faddr 19 (.t 2), [110], (some (110, true))⟩,
   ⟨(some 123), .load (some 2) (.t 122), [111, 110], (some (110, true))⟩,
   ⟨(some 124), .faddr 19 (.t 3), [110], (some (110, true))⟩,
   ⟨(some 125), .load (some 2) (.t 124), [113, 110], (some (110, true))⟩,
   ⟨(some 126), .bin Go.BinOp.eql (.struct [.str, .str]) (.t 123) (.t 125), [112, 114, 110], (some (110, true))⟩,
   ⟨(some 127), .pick (.t 121) (.t 126) (.c (.p (.bool false))), [110, 115], none⟩,
   ⟨(some 128), .mv (.t 127), [116, 110], none⟩,
   ⟨(some 129), .faddr 21 (.t 2), [117], (some (117, true))⟩,
   ⟨(some 130), .load (some 7) (.t 129), [118, 117], (some (117, true))⟩,
   ⟨(some 131), .faddr 21 (.t 3), [117], (some (117, true))⟩,
   ⟨(some 132), .load (some 7) (.t 131), [120, 117], (some (117, true))⟩,
   ⟨(some 133), .bin Go.BinOp.eql (.struct [.int, .int, .int, .int, .int, .int, .int]) (.t 130) (.t 132), [119, 121, 117], (some (117, true))⟩,
   ⟨(some 134), .pick (.t 128) (.t 133) (.c (.p (.bool false))), [117, 122], none⟩,
   ⟨(some 4), .asg (.t 134), [123, 117, 0, 1, 2, 3, 4, 5, 6, 7, 8, 9, 10, 11, 12, 13, 14, 15, 16, 17, 18, 19, 20, 21, 22, 23, 24, 25, 26, 27, 28, 29, 30, 31, 32, 33, 34, 35, 36, 37, 38, 39, 40, 41, 42, 43, 44, 45, 46, 47, 48, 49, 50, 51, 52, 53, 54, 55, 56, 57, 58, 59, 60, 61, 62, 63, 64, 65, 66, 67, 68, 69, 70, 71, 72, 73, 74, 75, 76, 77, 78, 79, 80, 81, 82, 83, 84, 85, 86, 87, 88, 89, 90, 91, 92, 93, 94, 95, 96, 97, 98, 99, 100, 101, 102, 103, 104, 105, 106, 107, 108, 109, 110, 111, 112, 113, 114, 115, 116, 117, 118, 119, 120, 121, 122, 123], none⟩]
def vf26 : VFun where
  vars := [0, 1, 17, 18, 19, 20, 21, 24, 25, 26, 27, 28, 31, 32, 33, 34, 35, 38, 39, 40, 41, 42, 45, 46, 47, 48, 49, 52, 53, 54, 55, 56, 59, 60, 61, 62, 63, 66, 67, 68, 69, 70, 73, 74, 75, 76, 77, 80, 81, 82, 83, 84, 87, 88, 89, 90, 91, 94, 95, 96, 97, 98, 101, 102, 103, 104, 105, 108, 109, 110, 111, 112, 115, 116, 117, 118, 119, 122, 123, 124, 125, 126, 129, 130, 131, 132, 133]
  boxes := [2, 3]
  mv := []
  res := [(.t 4)]
  body := (.seq (.region none vf26r0 [2, 3, 17, 18, 19, 20, 21, 24, 25, 26, 27, 28, 31, 32, 33, 34, 35, 38, 39, 40, 41, 42, 45, 46, 47, 48, 49, 52, 53, 54, 55, 56, 59, 60, 61, 62, 63, 66, 67, 68, 69, 70, 73, 74, 75, 76, 77, 80, 81, 82, 83, 84, 87, 88, 89, 90, 91, 94, 95, 96, 97, 98, 101, 102, 103, 104, 105, 108, 109, 110, 111, 112, 115, 116, 117, 118, 119, 122, 123, 124, 125, 126, 129, 130, 131, 132, 133] [2, 3, 17, 18, 19, 20, 21, 24, 25, 26, 27, 28, 31, 32, 33, 34, 35, 38, 39, 40, 41, 42, 45, 46, 47, 48, 49, 52, 53, 54, 55, 56, 59, 60, 61, 62, 63, 66, 67, 68, 69, 70, 73, 74, 75, 76, 77, 80, 81, 82, 83, 84, 87, 88, 89, 90, 91, 94, 95, 96, 97, 98, 101, 102, 103, 104, 105, 108, 109, 110, 111, 112, 115, 116, 117, 118, 119, 122, 123, 124, 125, 126, 129, 130, 131, 132, 133])
 (.seq (.seq (.region none vf26r1 [2, 3, 10, 17, 18, 19, 20, 21, 24, 25, 26, 27, 28, 31, 32, 33, 34, 35, 38, 39, 40, 41, 42, 45, 46, 47, 48, 49, 52, 53, 54, 55, 56, 59, 60, 61, 62, 63, 66, 67, 68, 69, 70, 73, 74, 75, 76, 77, 80, 81, 82, 83, 84, 87, 88, 89, 90, 91, 94, 95, 96, 97, 98, 101, 102, 103, 104, 105, 108, 109, 110, 111, 112, 115, 116, 117, 118, 119, 122, 123, 124, 125, 126, 129, 130, 131, 132, 133] [2, 3, 10, 17, 18, 19, 20, 21, 24, 25, 26, 27, 28, 31, 32, 33, 34, 35, 38, 39, 40, 41, 42, 45, 46, 47, 48, 49, 52, 53, 54, 55, 56, 59, 60, 61, 62, 63, 66, 67, 68, 69, 70, 73, 74, 75, 76, 77, 80, 81, 82, 83, 84, 87, 88, 89, 90, 91, 94, 95, 96, 97, 98, 101, 102, 103, 104, 105, 108, 109, 110, 111, 112, 115, 116, 117, 118, 119, 122, 123, 124, 125, 126, 129, 130, 131, 132, 133])
 (.cond (.t 10) (.seq (.region none vf26r2 [4, 134] [4, 134])
 .ret)
 .skip))
 (.seq (.region none vf26r3 [4, 134] [4, 134])
 .ret)))

def vf27r0 : List VOper :=
  [⟨(some 2), .box false 20 (.t 0), [], none⟩,
   ⟨(some 4), .alloc false [(.int Go.IntKind.i64 0), (.int Go.IntKind.i64 0), (.int Go.IntKind.u32 0), (.int Go.IntKind.u32 0), (.int Go.IntKind.i64 0), (.int Go.IntKind.i64 0), (.str []), (.str []), (.int Go.IntKind.u64 0), (.int Go.IntKind.u64 0), (.int Go.IntKind.u64 0), (.int Go.IntKind.u32 0), (.int Go.IntKind.i64 0), (.int Go.IntKind.i64 0), (.int Go.IntKind.i64 0), (.int Go.IntKind.i64 0), (.int Go.IntKind.i64 0), (.str []), (.str []), (.str []), (.str []), (.int Go.IntKind.u64 0), (.int Go.IntKind.u64 0), (.int Go.IntKind.u32 0), (.int Go.IntKind.u32 0), (.int Go.IntKind.i64 0), (.int Go.IntKind.i64 0), (.int Go.IntKind.i64 0), .nils], [], none⟩]
def vf27r1 : List VOper :=
  [⟨(some 5), .mv (.t 1), [], none⟩,
   ⟨(some 6), .faddr 1 (.t 2), [], none⟩,
   ⟨(some 7), .load none (.t 6), [1], none⟩,
   ⟨(some 8), .faddr 0 (.t 2), [], none⟩,
   ⟨(some 9), .load none (.t 8), [3], none⟩,
   ⟨(some 10), .faddr 18 (.t 2), [], none⟩,
   ⟨(some 11), .load none (.t 10), [5], none⟩,
   ⟨(some 12), .faddr 9 (.t 2), [], none⟩,
   ⟨(some 13), .load (some 2) (.t 12), [7], none⟩,
   ⟨(some 14), .faddr 11 (.t 2), [], none⟩,
   ⟨(some 15), .load (some 2) (.t 14), [9], none⟩,
   ⟨(some 16), .faddr 13 (.t 2), [], none⟩,
   ⟨(some 17), .load (some 2) (.t 16), [11], none⟩,
   ⟨(some 18), .faddr 15 (.t 2), [], none⟩,
   ⟨(some 19), .load (some 2) (.t 18), [13], none⟩,
   ⟨(some 20), .faddr 2 (.t 2), [], none⟩,
   ⟨(some 21), .load (some 7) (.t 20), [15], none⟩,
   ⟨(some 22), .faddr 19 (.t 2), [], none⟩,
   ⟨(some 23), .load none (.t 22), [17], none⟩,
   ⟨(some 24), .build [(.p (.int Go.IntKind.i64 0)), (.p (.int Go.IntKind.i64 0)), (.p (.int Go.IntKind.u32 0)), (.p (.int Go.IntKind.u32 0)), (.p (.int Go.IntKind.i64 0)), (.p (.int Go.IntKind.i64 0)), (.p (.str [])), (.p (.str [])), (.p (.int Go.IntKind.u64 0)), (.p (.int Go.IntKind.u64 0)), (.p (.int Go.IntKind.u64 0)), (.p (.int Go.IntKind.u32 0)), (.p (.int Go.IntKind.i64 0)), (.p (.int Go.IntKind.i64 0)), (.p (.int Go.IntKind.i64 0)), (.p (.int Go.IntKind.i64 0)), (.p (.int Go.IntKind.i64 0)), (.p (.str [])), (.p (.str [])), (.p (.str [])), (.p (.str [])), (.p (.int Go.IntKind.u64 0)), (.p (.int Go.IntKind.u64 0)), (.p (.int Go.IntKind.u32 0)), (.p (.int Go.IntKind.u32 0)), (.p (.int Go.IntKind.i64 0)), (.p (.int Go.IntKind.i64 0)), (.p (.int Go.IntKind.i64 0)), (.p .nils)] [(0, 1, (.c (.p (.int Go.IntKind.i64 10)))), (1, 1, (.t 5)), (2, 1, (.t 7)), (3, 1, (.t 9)), (5, 1, (.t 11)), (13, 2, (.t 13)), (15, 2, (.t 15)), (17, 2, (.t 17)), (19, 2, (.t 19)), (21, 7, (.t 21)), (28, 1, (.t 23))], [0, 2, 4, 6, 8, 10, 12, 14, 16, 18], none⟩,
   ⟨none, .store 29 (.t 4) (.t 24), [19, 0, 1, 2, 3, 4, 5, 6, 7, 8, 9, 10, 11, 12, 13, 14, 15, 16, 17, 18, 19], none⟩]
def vf27 : VFun where
  vars := [0, 1]
  boxes := [2, 4]
  mv := []
  res := [(.cell 4 (some 29))]
  body := (.seq (.region none vf27r0 [1, 2, 4] [1, 2, 4])
 (.seq (.region none vf27r1 [4] [4])
 .ret))

def vf28r0 : List VOper :=
  [⟨(some 2), .box false 20 (.t 0), [], none⟩,
   ⟨(some 3), .box false 20 (.t 1), [], none⟩,
   ⟨(some 4), .asg (.c (.p (.bool false))), [], none⟩]
def vf28r1 : List VOper :=
  [⟨(some 5), .faddr 19 (.t 2), [], none⟩,
   ⟨(some 6), .load none (.t 5), [0], none⟩,
   ⟨(some 7), .faddr 19 (.t 3), [], none⟩,
   ⟨(some 8), .load none (.t 7), [2], none⟩,
   ⟨(some 9), .call 51 [(.t 6), (.t 8)], [1, 3], none⟩,
   ⟨(some 10), .mv (.t 9), [4, 4], none⟩,
   ⟨(some 11), .faddr 0 (.t 2), [5], (some (5, true))⟩,
   ⟨(some 12), .load none (.t 11), [6, 5], (some (5, true))⟩,
   ⟨(some 13), .faddr 0 (.t 3), [5], (some (5, true))⟩,
   ⟨(some 14), .load none (.t 13), [8, 5], (some (5, true))⟩,
   ⟨(some 15), .bin Go.BinOp.eql .no (.t 12) (.t 14), [7, 9, 5], (some (5, true))⟩,
   ⟨(some 16), .pick (.t 10) (.t 15) (.c (.p (.bool false))), [5, 10], none⟩,
   ⟨(some 17), .mv (.t 16), [11, 5], none⟩,
   ⟨(some 18), .faddr 1 (.t 2), [12], (some (12, true))⟩,
   ⟨(some 19), .load none (.t 18), [13, 12], (some (12, true))⟩,
   ⟨(some 20), .faddr 1 (.t 3), [12], (some (12, true))⟩,
   ⟨(some 21), .load none (.t 20), [15, 12], (some (12, true))⟩,
   ⟨(some 22), .bin Go.BinOp.eql .no (.t 19) (.t 21), [14, 16, 12], (some (12, true))⟩,
   ⟨(some 23), .pick (.t 17) (.t 22) (.c (.p (.bool false))), [12, 17], none⟩,
   ⟨(some 24), .mv (.t 23), [18, 12], none⟩,
   ⟨(some 25), .faddr 2 (.t 2), [19], (some (19, true))⟩,
   ⟨(some 26), .load (some 7) (.t 25), [20, 19], (some (19, true))⟩,
   ⟨(some 27), .faddr 2 (.t 3), [19], (some (19, true))⟩,
   ⟨(some 28), .load (some 7) (.t 27), [22, 19], (some (19, true))⟩,
   ⟨(some 29), .bin Go.BinOp.eql (.struct [.int, .int, .int, .int, .int, .int, .int]) (.t 26) (.t 28), [21, 23, 19], (some (19, true))⟩,
   ⟨(some 30), .pick (.t 24) (.t 29) (.c (.p (.bool false))), [19, 24], none⟩,
   ⟨(some 31), .mv (.t 30), [25, 19], none⟩,
   ⟨(some 32), .faddr 9 (.t 2), [26], (some (26, true))⟩,
   ⟨(some 33), .load (some 2) (.t 32), [27, 26], (some (26, true))⟩,
   ⟨(some 34), .faddr 9 (.t 3), [26], (some (26, true))⟩,
   ⟨(some 35), .load (some 2) (.t 34), [29, 26], (some (26, true))⟩,
   ⟨(some 36), .bin Go.BinOp.eql (.struct [.int, .int]) (.t 33) (.t 35), [28, 30, 26], (some (26, true))⟩,
   ⟨(some 37), .pick (.t 31) (.t 36) (.c (.p (.bool false))), [26, 31], none⟩,
   ⟨(some 38), .mv (.t 37), [32, 26], none⟩,
   ⟨(some 39), .faddr 11 (.t 2), [33], (some (33, true))⟩,
   ⟨(some 40), .load (some 2) (.t 39), [34, 33], (some (33, true))⟩,
   ⟨(some 41), .faddr 11 (.t 3), [33], (some (33, true))⟩,
   ⟨(some 42), .load (some 2) (.t 41), [36, 33], (some (33, true))⟩,
   ⟨(some 43), .bin Go.BinOp.eql (.struct [.int, .int]) (.t 40) (.t 42), [35, 37, 33], (some (33, true))⟩,
   ⟨(some 44), .pick (.t 38) (.t 43) (.c (.p (.bool false))), [33, 38], none⟩,
   ⟨(some 45), .mv (.t 44), [39, 33], none⟩,
   ⟨(some 46), .faddr 13 (.t 2), [40], (some (40, true))⟩,
   ⟨(some 47), .load (some 2) (.t 46), [41, 40], (some (40, true))⟩,
   ⟨(some 48), .faddr 13 (.t 3), [40], (some (40, true))⟩,
   ⟨(some 49), .load (some 2) (.t 48), [43, 40], (some (40, true))⟩,
   ⟨(some 50), .bin Go.BinOp.eql (.struct [.str, .str]) (.t 47) (.t 49), [42, 44, 40], (some (40, true))⟩,
   ⟨(some 51), .pick (.t 45) (.t 50) (.c (.p (.bool false))), [40, 45], none⟩,
   ⟨(some 52), .mv (.t 51), [46, 40], none⟩,
   ⟨(some 53), .faddr 15 (.t 2), [47], (some (47, true))⟩,
   ⟨(some 54), .load (some 2) (.t 53), [48, 47], (some (47, true))⟩,
   ⟨(some 55), .faddr 15 (.t 3), [47], (some (47, true))⟩,
   ⟨(some 56), .load (some 2) (.t 55), [50, 47], (some (47, true))⟩,
   ⟨(some 57), .bin Go.BinOp.eql (.struct [.str, .str]) (.t 54) (.t 56), [49, 51, 47], (some (47, true))⟩,
   ⟨(some 58), .pick (.t 52) (.t 57) (.c (.p (.bool false))), [47, 52], none⟩,
   ⟨(some 59), .mv (.t 58), [53, 47], none⟩,
   ⟨(some 60), .faddr 17 (.t 2), [54], (some (54, true))⟩,
   ⟨(some 61), .load none (.t 60), [55, 54], (some (54, true))⟩,
   ⟨(some 62), .faddr 17 (.t 3), [54], (some (54, true))⟩,
   ⟨(some 63), .load none (.t 62), [57, 54], (some (54, true))⟩,
   ⟨(some 64), .bin Go.BinOp.eql .no (.t 61) (.t 63), [56, 58, 54], (some (54, true))⟩,
   ⟨(some 65), .pick (.t 59) (.t 64) (.c (.p (.bool false))), [54, 59], none⟩,
   ⟨(some 66), .mv (.t 65), [60, 54], none⟩,
   ⟨(some 67), .faddr 18 (.t 2), [61], (some (61, true))⟩,
   ⟨(some 68), .load none (.t 67), [62, 61], (some (61, true))⟩,
   ⟨(some 69), .faddr 18 (.t 3), [61], (some (61, true))⟩,
   ⟨(some 70), .load none (.t 69), [64, 61], (some (61, true))⟩,
   ⟨(some 71), .bin Go.BinOp.eql .no (.t 68) (.t 70), [63, 65, 61], (some (61, true))⟩,
   ⟨(some 72), .pick (.t 66) (.t 71) (.c (.p (.bool false))), [61, 66], none⟩,
   ⟨(some 4), .asg (.t 72), [67, 61, 0, 1, 2, 3, 4, 5, 6, 7, 8, 9, 10, 11, 12, 13, 14, 15, 16, 17, 18, 19, 20, 21, 22, 23, 24, 25, 26, 27, 28, 29, 30, 31, 32, 33, 34, 35, 36, 37, 38, 39, 40, 41, 42, 43, 44, 45, 46, 47, 48, 49, 50, 51, 52, 53, 54, 55, 56, 57, 58, 59, 60, 61, 62, 63, 64, 65, 66, 67], none⟩]
def vf28 : VFun where
  vars := [0, 1, 11, 12, 13, 14, 15, 18, 19, 20, 21, 22, 25, 26, 27, 28, 29, 32, 33, 34, 35, 36, 39, 40, 41, 42, 43, 46, 47, 48, 49, 50, 53, 54, 55, 56, 57, 60, 61, 62, 63, 64, 67, 68, 69, 70, 71]
  boxes := [2, 3]
  mv := []
  res := [(.t 4)]
  body := (.seq (.region none vf28r0 [2, 3, 11, 12, 13, 14, 15, 18, 19, 20, 21, 22, 25, 26, 27, 28, 29, 32, 33, 34, 35, 36, 39, 40, 41, 42, 43, 46, 47, 48, 49, 50, 53, 54, 55, 56, 57, 60, 61, 62, 63, 64, 67, 68, 69, 70, 71] [2, 3, 11, 12, 13, 14, 15, 18, 19, 20, 21, 22, 25, 26, 27, 28, 29, 32, 33, 34, 35, 36, 39, 40, 41, 42, 43, 46, 47, 48, 49, 50, 53, 54, 55, 56, 57, 60, 61, 62, 63, 64, 67, 68, 69, 70, 71])
 (.seq (.region none vf28r1 [4, 72] [4, 72])
 .ret))

def vf29r0 : List VOper :=
  [⟨(some 2), .box false 20 (.t 0), [], none⟩,
   ⟨(some 3), .box false 20 (.t 1), [], none⟩,
   ⟨(some 4), .asg (.c (.p (.bool false))), [], none⟩]
def vf29r1 : List VOper :=
  [⟨(some 5), .faddr 19 (.t 2), [], none⟩,
   ⟨(some 6), .load none (.t 5), [0], none⟩,
   ⟨(some 7), .faddr 19 (.t 3), [], none⟩,
   ⟨(some 8), .load none (.t 7), [2], none⟩,
   ⟨(some 9), .call 50 [(.t 6), (.t 8)], [1, 3], none⟩,
   ⟨(some 10), .mv (.t 9), [4, 4], none⟩,
   ⟨(some 11), .faddr 0 (.t 2), [5], (some (5, true))⟩,
   ⟨(some 12), .load none (.t 11), [6, 5], (some (5, true))⟩,
   ⟨(some 13), .faddr 0 (.t 3), [5], (some (5, true))⟩,
   ⟨(some 14), .load none (.t 13), [8, 5], (some (5, true))⟩,
   ⟨(some 15), .bin Go.BinOp.eql .no (.t 12) (.t 14), [7, 9, 5], (some (5, true))⟩,
   ⟨(some 16), .pick (.t 10) (.t 15) (.c (.p (.bool false))), [5, 10], none⟩,
   ⟨(some 17), .mv (.t 16), [11, 5], none⟩,
   ⟨(some 18), .faddr 1 (.t 2), [12], (some (12, true))⟩,
   ⟨(some 19), .load none (.t 18), [13, 12], (some (12, true))⟩,
   ⟨(some 20), .faddr 1 (.t 3), [12], (some (12, true))⟩,
   ⟨(some 21), .load none (.t 20), [15, 12], (some (12, true))⟩,
   ⟨(some 22), .bin Go.BinOp.eql .no (.t 19) (.t 21), [14, 16, 12], (some (12, true))⟩,
   ⟨(some 23), .pick (.t 17) (.t 22) (.c (.p (.bool false))), [12, 17], none⟩,
   ⟨(some 24), .mv (.t 23), [18, 12], none⟩,
   ⟨(some 25), .faddr 2 (.t 2), [19], (some (19, true))⟩,
   ⟨(some 26), .load (some 7) (.t 25), [20, 19], (some (19, true))⟩,
   ⟨(some 27), .faddr 2 (.t 3), [19], (some (19, true))⟩,
   ⟨(some 28), .load (some 7) (.t 27), [22, 19], (some (19, true))⟩,
   ⟨(some 29), .bin Go.BinOp.eql (.struct [.int, .int, .int, .int, .int, .int, .int]) (.t 26) (.t 28), [21, 23, 19], (some (19, true))⟩,
   ⟨(some 30), .pick (.t 24) (.t 29) (.c (.p (.bool false))), [19, 24], none⟩,
   ⟨(some 31), .mv (.t 30), [25, 19], none⟩,
   ⟨(some 32), .faddr 9 (.t 2), [26], (some (26, true))⟩,
   ⟨(some 33), .load (some 2) (.t 32), [27, 26], (some (26, true))⟩,
   ⟨(some 34), .faddr 9 (.t 3), [26], (some (26, true))⟩,
   ⟨(some 35), .load (some 2) (.t 34), [29, 26], (some (26, true))⟩,
   ⟨(some 36), .bin Go.BinOp.eql (.struct [.int, .int]) (.t 33) (.t 35), [28, 30, 26], (some (26, true))⟩,
   ⟨(some 37), .pick (.t 31) (.t 36) (.c (.p (.bool false))), [26, 31], none⟩,
   ⟨(some 38), .mv (.t 37), [32, 26], none⟩,
   ⟨(some 39), .faddr 11 (.t 2), [33], (some (33, true))⟩,
   ⟨(some 40), .load (some 2) (.t 39), [34, 33], (some (33, true))⟩,
   ⟨(some 41), .faddr 11 (.t 3), [33], (some (33, true))⟩,
   ⟨(some 42), .load (some 2) (.t 41), [36, 33], (some (33, true))⟩,
   ⟨(some 43), .bin Go.BinOp.eql (.struct [.int, .int]) (.t 40) (.t 42), [35, 37, 33], (some (33, true))⟩,
   ⟨(some 44), .pick (.t 38) (.t 43) (.c (.p (.bool false))), [33, 38], none⟩,
   ⟨(some 45), .mv (.t 44), [39, 33], none⟩,
   ⟨(some 46), .faddr 13 (.t 2), [40], (some (40, true))⟩,
   ⟨(some 47), .load (some 2) (.t 46), [41, 40], (some (40, true))⟩,
   ⟨(some 48), .faddr 13 (.t 3), [40], (some (40, true))⟩,
   ⟨(some 49), .load (some 2) (.t 48), [43, 40], (some (40, true))⟩,
   ⟨(some 50), .bin Go.BinOp.eql (.struct [.str, .str]) (.t 47) (.t 49), [42, 44, 40], (some (40, true))⟩,
   ⟨(some 51), .pick (.t 45) (.t 50) (.c (.p (.bool false))), [40, 45], none⟩,
   ⟨(some 52), .mv (.t 51), [46, 40], none⟩,
   ⟨(some 53), .faddr 15 (.t 2), [47], (some (47, true))⟩,
   ⟨(some 54), .load (some 2) (.t 53), [48, 47], (some (47, true))⟩,
   ⟨(some 55), .faddr 15 (.t 3), [47], (some (47, true))⟩,
   ⟨(some 56), .load (some 2) (.t 55), [50, 47], (some (47, true))⟩,
   ⟨(some 57), .bin Go.BinOp.eql (.struct [.str, .str]) (.t 54) (.t 56), [49, 51, 47], (some (47, true))⟩,
   ⟨(some 58), .pick (.t 52) (.t 57) (.c (.p (.bool false))), [47, 52], none⟩,
   ⟨(some 59), .mv (.t 58), [53, 47], none⟩,
   ⟨(some 60), .faddr 17 (.t 2), [54], (some (54, true))⟩,
   ⟨(some 61), .load none (.t 60), [55, 54], (some (54, true))⟩,
   ⟨(some 62), .faddr 17 (.t 3), [54], (some (54, true))⟩,
   ⟨(some 63), .load none (.t 62), [57, 54], (some (54, true))⟩,
   ⟨(some 64), .bin Go.BinOp.eql .no (.t 61) (.t 63), [56, 58, 54], (some (54, true))⟩,
   ⟨(some 65), .pick (.t 59) (.t 64) (.c (.p (.bool false))), [54, 59], none⟩,
   ⟨(some 66), .mv (.t 65), [60, 54], none⟩,
   ⟨(some 67), .faddr 18 (.t 2), [61], (some (61, true))⟩,
   ⟨(some 68), .load none (.t 67), [62, 61], (some (61, true))⟩,
   ⟨(some 69), .faddr 18 (.t 3), [61], (some (61, true))⟩,
   ⟨(some 70), .load none (.t 69), [64, 61], (some (61, true))⟩,
   ⟨(some 71), .bin Go.BinOp.eql .no (.t 68) (.t 70), [63, 65, 61], (some (61, true))⟩,
   ⟨(some 72), .pick (.t 66) (.t 71) (.c (.p (.bool false))), [61, 66], none⟩,
   ⟨(some 4), .asg (.t 72), [67, 61, 0, 1, 2, 3, 4, 5, 6, 7, 8, 9, 10, 11, 12, 13, 14, 15, 16, 17, 18, 19, 20, 21, 22, 23, 24, 25, 26, 27, 28, 29, 30, 31, 32, 33, 34, 35, 36, 37, 38, 39, 40, 41, 42, 43, 44, 45, 46, 47, 48, 49, 50, 51, 52, 53, 54, 55, 56, 57, 58, 59, 60, 61, 62, 63, 64, 65, 66, 67], none⟩]
def vf29 : VFun where
  vars := [0, 1, 11, 12, 13, 14, 15, 18, 19, 20, 21, 22, 25, 26, 27, 28, 29, 32, 33, 34, 35, 36, 39, 40, 41, 42, 43, 46, 47, 48, 49, 50, 53, 54, 55, 56, 57, 60, 61, 62, 63, 64, 67, 68, 69, 70, 71]
  boxes := [2, 3]
  mv := []
  res := [(.t 4)]
  body := (.seq (.region none vf29r0 [2, 3, 11, 12, 13, 14, 15, 18, 19, 20, 21, 22, 25, 26, 27, 28, 29, 32, 33, 34, 35, 36, 39, 40, 41, 42, 43, 46, 47, 48, 49, 50, 53, 54, 55, 56, 57, 60, 61, 62, 63, 64, 67, 68, 69, 70, 71] [2, 3, 11, 12, 13, 14, 15, 18, 19, 20, 21, 22, 25, 26, 27, 28, 29, 32, 33, 34, 35, 36, 39, 40, 41, 42, 43, 46, 47, 48, 49, 50, 53, 54, 55, 56, 57, 60, 61, 62, 63, 64, 67, 68, 69, 70, 71])
 (.seq (.region none vf29r1 [4, 72] [4, 72])
 .ret))

def vf30r0 : List VOper :=
  [⟨(some 2), .asg (.c .nilp), [], none⟩]
def vf30r1 : List VOper :=
  [⟨(some 3), .mv (.t 0), [], none⟩,
   ⟨(some 4), .mnmx true [(.t 3), (.c (.p (.int Go.IntKind.i64 0)))], [0], none⟩,
   ⟨(some 5), .build [(.p .nils), (.p (.int Go.IntKind.i64 0))] [(1, 1, (.t 4))], [1], none⟩,
   ⟨(some 6), .box true 2 (.t 5), [2], none⟩,
   ⟨(some 2), .asg (.t 6), [3, 0, 1, 2, 3], none⟩]
def vf30 : VFun where
  vars := [0]
  boxes := []
  mv := []
  res := [(.t 2)]
  body := (.seq (.region none vf30r0 [0] [0])
 (.seq (.region none vf30r1 [2, 6] [2, 6])
 .ret))

def vf31r0 : List VOper :=
  [⟨(some 4), .asg (.c (.p (.bool false))), [], none⟩]
def vf31r1 : List VOper :=
  [⟨(some 6), .mv (.t 0), [], none⟩,
   ⟨(some 7), .len false (.t 6), [0], none⟩,
   ⟨(some 8), .mv (.t 1), [], none⟩,
   ⟨(some 9), .len false (.t 8), [2], none⟩,
   ⟨(some 10), .bin Go.BinOp.neq .no (.t 7) (.t 9), [1, 3], none⟩]
def vf31r2 : List VOper :=
  [⟨(some 4), .asg (.c (.p (.bool false))), [], none⟩]
def vf31r3 : List VOper :=
  [⟨(some 11), .mv (.t 0), [], none⟩,
   ⟨(some 12), .len false (.t 11), [0], none⟩,
   ⟨(some 13), .mv (.c (.p (.int Go.IntKind.i64 0))), [], none⟩]
def vf31r4 : List VOper :=
  [⟨(some 14), .bin Go.BinOp.lss .no (.t 13) (.t 12), [], none⟩]
def vf31r5 : List VOper :=
  [⟨(some 15), .mv (.t 13), [], none⟩,
   ⟨(some 5), .asg (.t 15), [0, 0], none⟩]
def vf31r6 : List VOper :=
  [⟨(some 16), .mv (.t 0), [], none⟩,
   ⟨(some 17), .mv (.t 5), [], none⟩,
   ⟨(some 18), .iaddrS 20 (.t 16) (.t 17), [0, 1], none⟩,
   ⟨(some 19), .load (some 20) (.t 18), [2], none⟩,
   ⟨(some 20), .mv (.t 1), [], none⟩,
   ⟨(some 21), .mv (.t 5), [], none⟩,
   ⟨(some 22), .iaddrS 20 (.t 20) (.t 21), [4, 5], none⟩,
   ⟨(some 23), .load (some 20) (.t 22), [6], none⟩,
   ⟨(some 24), .call 29 [(.t 19), (.t 23)], [3, 7], none⟩,
   ⟨(some 25), .un Go.UnOp.not (.t 24), [8], none⟩]
def vf31r7 : List VOper :=
  [⟨(some 4), .asg (.c (.p (.bool false))), [], none⟩]
def vf31r8 : List VOper :=
  [⟨(some 26), .bin Go.BinOp.add .no (.t 13) (.c (.p (.int Go.IntKind.i64 1))), [], none⟩,
   ⟨(some 13), .mv (.t 26), [0], none⟩]
def vf31r9 : List VOper :=
  [⟨(some 4), .asg (.c (.p (.bool true))), [], none⟩]
def vf31 : VFun where
  vars := [0, 1]
  boxes := []
  mv := []
  res := [(.t 4)]
  body := (.seq (.region none vf31r0 [0, 1] [0, 1])
 (.seq (.seq (.region none vf31r1 [0, 1, 10] [0, 1, 10])
 (.cond (.t 10) (.seq (.region none vf31r2 [4] [4])
 .ret)
 .skip))
 (.seq (.seq (.region none vf31r3 [0, 1, 12, 13, 26] [0, 1, 12, 13, 26])
 (.block 0 (.loop (.seq (.region none vf31r4 [0, 1, 12, 13, 14, 26] [0, 1, 12, 13, 14, 26])
 (.seq (.cond (.t 14) .skip
 (.exit 0))
 (.seq (.block 1 (.seq (.region none vf31r5 [0, 1, 5, 12, 13, 15, 26] [0, 1, 5, 12, 13, 15, 26])
 (.seq (.region (some ([], (.one 0 (.one 1 (.one 2 (.one 3 (.one 4 (.one 5 (.one 6 (.one 7 (.one 8 (.one 9 .fin)))))))))))) vf31r6 [0, 1, 12, 13, 25, 26] [0, 1, 12, 13, 25, 26])
 (.cond (.t 25) (.seq (.region none vf31r7 [4] [4])
 .ret)
 .skip))))
 (.region none vf31r8 [0, 1, 12, 13, 26] [0, 1, 12, 13, 26])))))))
 (.seq (.region none vf31r9 [4] [4])
 .ret))))

def vf32r0 : List VOper :=
  [⟨(some 4), .asg (.c (.p .nils)), [], none⟩]
def vf32r1 : List VOper :=
  [⟨(some 6), .mv (.t 1), [], none⟩,
   ⟨(some 7), .mv (.t 0), [], none⟩,
   ⟨(some 8), .nilck (.t 7), [1], none⟩,
   ⟨(some 9), .faddr 0 (.t 8), [2], none⟩,
   ⟨(some 10), .load none (.t 9), [3], none⟩,
   ⟨(some 11), .bin Go.BinOp.leq .no (.t 6) (.t 10), [0, 4], none⟩]
def vf32r2 : List VOper :=
  [⟨(some 4), .asg (.c (.p .nils)), [], none⟩]
def vf32r3 : List VOper :=
  [⟨(some 12), .mv (.t 0), [], none⟩,
   ⟨(some 13), .nilck (.t 12), [0], none⟩,
   ⟨(some 14), .faddr 2 (.t 13), [1], none⟩,
   ⟨(some 15), .load none (.t 14), [2], none⟩,
   ⟨(some 5), .asg (.t 15), [3, 0, 1, 2, 3], none⟩]
def vf32r4 : List VOper :=
  [⟨(some 16), .mv (.t 0), [], none⟩,
   ⟨(some 17), .nilck (.t 16), [0, 0], none⟩,
   ⟨(some 18), .faddr 2 (.t 17), [1, 0], none⟩,
   ⟨none, .store 1 (.t 18) (.c (.p .nils)), [2, 0], none⟩]
def vf32r5 : List VOper :=
  [⟨(some 19), .mv (.t 0), [], none⟩,
   ⟨(some 20), .mv (.t 1), [], none⟩,
   ⟨(some 21), .nilck (.t 19), [0, 0, 1], none⟩,
   ⟨(some 22), .faddr 0 (.t 21), [2, 0, 1], none⟩,
   ⟨none, .store 1 (.t 22) (.t 20), [3, 1, 0, 1], none⟩]
def vf32r6 : List VOper :=
  [⟨(some 23), .mv (.t 5), [], none⟩,
   ⟨(some 4), .asg (.t 23), [0, 0], none⟩]
def vf32 : VFun where
  vars := [0, 1]
  boxes := []
  mv := []
  res := [(.t 4)]
  body := (.seq (.region none vf32r0 [0, 1] [0, 1])
 (.seq (.seq (.region none vf32r1 [0, 1, 11] [0, 1, 11])
 (.cond (.t 11) (.seq (.region none vf32r2 [4, 5, 15, 23] [4, 5, 15, 23])
 .ret)
 .skip))
 (.seq (.region none vf32r3 [0, 1, 5, 15] [0, 1, 5, 15])
 (.seq (.region none vf32r4 [0, 1, 5, 15] [0, 1, 5, 15])
 (.seq (.region none vf32r5 [5, 15] [5, 15])
 (.seq (.region none vf32r6 [4, 5, 15, 23] [4, 5, 15, 23])
 .ret))))))

def vf33r0 : List VOper :=
  [⟨(some 3), .box false 20 (.t 1), [], none⟩,
   ⟨(some 4), .alloc false [(.int Go.IntKind.u32 0), (.int Go.IntKind.u32 0), (.int Go.IntKind.u64 0), (.int Go.IntKind.u64 0), (.int Go.IntKind.u32 0), (.int Go.IntKind.u32 0), (.int Go.IntKind.i64 0), (.int Go.IntKind.i64 0), (.int Go.IntKind.i64 0), (.int Go.IntKind.i64 0), (.int Go.IntKind.i64 0), (.int Go.IntKind.i64 0), (.int Go.IntKind.i64 0), (.str []), (.str []), (.str []), (.str []), (.int Go.IntKind.i64 0), (.int Go.IntKind.i64 0), .nils], [], none⟩,
   ⟨(some 5), .asg (.c (.p (.int Go.IntKind.i64 0))), [], none⟩]
def vf33r1 : List VOper :=
  [⟨(some 8), .faddr 2 (.t 3), [], none⟩,
   ⟨(some 9), .load (some 7) (.t 8), [0], none⟩,
   ⟨(some 10), .call 52 [(.t 9)], [1], none⟩,
   ⟨(some 11), .un Go.UnOp.not (.t 10), [2], none⟩,
   ⟨(some 12), .mv (.t 11), [3, 2], none⟩,
   ⟨(some 13), .faddr 19 (.t 3), [4], (some (4, false))⟩,
   ⟨(some 14), .load none (.t 13), [5, 4], (some (4, false))⟩,
   ⟨(some 15), .len false (.t 14), [6, 4], (some (4, false))⟩,
   ⟨(some 16), .bin Go.BinOp.eql .no (.t 15) (.c (.p (.int Go.IntKind.i64 0))), [7, 4], (some (4, false))⟩,
   ⟨(some 17), .pick (.t 12) (.c (.p (.bool true))) (.t 16), [4, 8], none⟩]
def vf33r2 : List VOper :=
  [⟨(some 18), .build [(.p (.int Go.IntKind.u32 0)), (.p (.int Go.IntKind.u32 0)), (.p (.int Go.IntKind.u64 0)), (.p (.int Go.IntKind.u64 0)), (.p (.int Go.IntKind.u32 0)), (.p (.int Go.IntKind.u32 0)), (.p (.int Go.IntKind.i64 0)), (.p (.int Go.IntKind.i64 0)), (.p (.int Go.IntKind.i64 0)), (.p (.int Go.IntKind.i64 0)), (.p (.int Go.IntKind.i64 0)), (.p (.int Go.IntKind.i64 0)), (.p (.int Go.IntKind.i64 0)), (.p (.str [])), (.p (.str [])), (.p (.str [])), (.p (.str [])), (.p (.int Go.IntKind.i64 0)), (.p (.int Go.IntKind.i64 0)), (.p .nils)] [], [], none⟩,
   ⟨none, .store 20 (.t 4) (.t 18), [0, 0], none⟩,
   ⟨(some 5), .asg (.c (.p (.int Go.IntKind.i64 1))), [1, 0, 1], none⟩]
def vf33r3 : List VOper :=
  [⟨(some 19), .faddr 1 (.t 3), [], none⟩,
   ⟨(some 20), .load none (.t 19), [0], none⟩,
   ⟨(some 21), .mv (.t 0), [], none⟩,
   ⟨(some 22), .nilck (.t 21), [2], none⟩,
   ⟨(some 23), .faddr 0 (.t 22), [3], none⟩,
   ⟨(some 24), .load none (.t 23), [4], none⟩,
   ⟨(some 25), .bin Go.BinOp.neq .no (.t 20) (.t 24), [1, 5], none⟩]
def vf33r4 : List VOper :=
  [⟨(some 26), .build [(.p (.int Go.IntKind.u32 0)), (.p (.int Go.IntKind.u32 0)), (.p (.int Go.IntKind.u64 0)), (.p (.int Go.IntKind.u64 0)), (.p (.int Go.IntKind.u32 0)), (.p (.int Go.IntKind.u32 0)), (.p (.int Go.IntKind.i64 0)), (.p (.int Go.IntKind.i64 0)), (.p (.int Go.IntKind.i64 0)), (.p (.int Go.IntKind.i64 0)), (.p (.int Go.IntKind.i64 0)), (.p (.int Go.IntKind.i64 0)), (.p (.int Go.IntKind.i64 0)), (.p (.str [])), (.p (.str [])), (.p (.str [])), (.p (.str [])), (.p (.int Go.IntKind.i64 0)), (.p (.int Go.IntKind.i64 0)), (.p .nils)] [], [], none⟩,
   ⟨none, .store 20 (.t 4) (.t 26), [0, 0], none⟩,
   ⟨(some 5), .asg (.c (.p (.int Go.IntKind.i64 45))), [1, 0, 1], none⟩]
def vf33r5 : List VOper :=
  [⟨(some 28), .mv (.t 0), [], none⟩,
   ⟨(some 29), .faddr 2 (.t 3), [], none⟩,
   ⟨(some 30), .load (some 7) (.t 29), [1], none⟩,
   ⟨(some 31), .call 39 [(.t 28), (.t 30)], [0, 2], none⟩,
   ⟨(some 27), .mv (.t 31), [3], none⟩,
   ⟨(some 32), .ext (.t 27) 0, [4], none⟩,
   ⟨(some 33), .ext (.t 27) 1, [4], none⟩,
   ⟨(some 6), .alloc false [(.int Go.IntKind.u32 0), (.int Go.IntKind.u32 0), (.int Go.IntKind.u64 0), (.int Go.IntKind.u64 0), (.int Go.IntKind.u32 0), (.int Go.IntKind.u32 0), (.int Go.IntKind.i64 0), (.int Go.IntKind.i64 0), (.int Go.IntKind.i64 0), (.int Go.IntKind.i64 0), (.int Go.IntKind.i64 0), (.int Go.IntKind.i64 0), (.int Go.IntKind.i64 0), (.str []), (.str []), (.str []), (.str []), (.int Go.IntKind.i64 0), (.int Go.IntKind.i64 0), .nils], [], none⟩,
   ⟨none, .store 20 (.t 6) (.t 32), [7, 5, 3, 0, 1, 2, 3, 4, 5, 7], none⟩,
   ⟨(some 7), .asg (.t 33), [6, 8, 0, 1, 2, 3, 4, 5, 6, 7, 8], none⟩]
def vf33r6 : List VOper :=
  [⟨(some 34), .mv (.t 7), [], none⟩]
def vf33r7 : List VOper :=
  [⟨(some 35), .build [(.p (.int Go.IntKind.u32 0)), (.p (.int Go.IntKind.u32 0)), (.p (.int Go.IntKind.u64 0)), (.p (.int Go.IntKind.u64 0)), (.p (.int Go.IntKind.u32 0)), (.p (.int Go.IntKind.u32 0)), (.p (.int Go.IntKind.i64 0)), (.p (.int Go.IntKind.i64 0)), (.p (.int Go.IntKind.i64 0)), (.p (.int Go.IntKind.i64 0)), (.p (.int Go.IntKind.i64 0)), (.p (.int Go.IntKind.i64 0)), (.p (.int Go.IntKind.i64 0)), (.p (.str [])), (.p (.str [])), (.p (.str [])), (.p (.str [])), (.p (.int Go.IntKind.i64 0)), (.p (.int Go.IntKind.i64 0)), (.p .nils)] [], [], none⟩,
   ⟨none, .store 20 (.t 4) (.t 35), [0, 0], none⟩,
   ⟨(some 5), .asg (.c (.p (.int Go.IntKind.i64 3))), [1, 0, 1], none⟩]
def vf33r8 : List VOper :=
  [⟨(some 36), .mv (.t 0), [], none⟩,
   ⟨(some 37), .nilck (.t 36), [0], none⟩,
   ⟨(some 38), .faddr 2 (.t 37), [1], none⟩,
   ⟨(some 39), .load none (.t 38), [2], none⟩,
   ⟨(some 40), .len false (.t 39), [3], none⟩,
   ⟨(some 41), .mv (.t 0), [], none⟩,
   ⟨(some 42), .nilck (.t 41), [5], none⟩,
   ⟨(some 43), .faddr 3 (.t 42), [6], none⟩,
   ⟨(some 44), .load none (.t 43), [7], none⟩,
   ⟨(some 45), .bin Go.BinOp.geq .no (.t 40) (.t 44), [4, 8], none⟩]
def vf33r9 : List VOper :=
  [⟨(some 46), .build [(.p (.int Go.IntKind.u32 0)), (.p (.int Go.IntKind.u32 0)), (.p (.int Go.IntKind.u64 0)), (.p (.int Go.IntKind.u64 0)), (.p (.int Go.IntKind.u32 0)), (.p (.int Go.IntKind.u32 0)), (.p (.int Go.IntKind.i64 0)), (.p (.int Go.IntKind.i64 0)), (.p (.int Go.IntKind.i64 0)), (.p (.int Go.IntKind.i64 0)), (.p (.int Go.IntKind.i64 0)), (.p (.int Go.IntKind.i64 0)), (.p (.int Go.IntKind.i64 0)), (.p (.str [])), (.p (.str [])), (.p (.str [])), (.p (.str [])), (.p (.int Go.IntKind.i64 0)), (.p (.int Go.IntKind.i64 0)), (.p .nils)] [], [], none⟩,
   ⟨none, .store 20 (.t 4) (.t 46), [0, 0], none⟩,
   ⟨(some 5), .asg (.c (.p (.int Go.IntKind.i64 4))), [1, 0, 1], none⟩]
def vf33r10 : List VOper :=
  [⟨(some 47), .mv (.t 0), [], none⟩,
   ⟨(some 48), .nilck (.t 47), [0], none⟩,
   ⟨(some 49), .faddr 1 (.t 48), [1], none⟩,
   ⟨(some 50), .load none (.t 49), [2], none⟩,
   ⟨(some 51), .bin Go.BinOp.add .no (.t 50) (.c (.p (.int Go.IntKind.u32 1))), [3], none⟩,
   ⟨(some 52), .nilck (.t 47), [0, 0, 1, 2, 3, 4], none⟩,
   ⟨(some 53), .faddr 1 (.t 52), [5, 0, 1, 2, 3, 4], none⟩,
   ⟨none, .store 1 (.t 53) (.t 51), [6, 4, 0, 1, 2, 3, 4], none⟩]
def vf33r11 : List VOper :=
  [⟨(some 54), .mv (.t 0), [], none⟩,
   ⟨(some 55), .nilck (.t 54), [0], none⟩,
   ⟨(some 56), .faddr 1 (.t 55), [1], none⟩,
   ⟨(some 57), .load none (.t 56), [2], none⟩,
   ⟨(some 58), .faddr 0 (.t 3), [0, 1, 2, 3], none⟩,
   ⟨none, .store 1 (.t 58) (.t 57), [4, 3, 0, 1, 2, 3], none⟩]
def vf33r12 : List VOper :=
  [⟨(some 59), .mv (.t 0), [], none⟩,
   ⟨(some 60), .lit 20 [(.int Go.IntKind.u32 0), (.int Go.IntKind.u32 0), (.int Go.IntKind.u64 0), (.int Go.IntKind.u64 0), (.int Go.IntKind.u32 0), (.int Go.IntKind.u32 0), (.int Go.IntKind.i64 0), (.int Go.IntKind.i64 0), (.int Go.IntKind.i64 0), (.int Go.IntKind.i64 0), (.int Go.IntKind.i64 0), (.int Go.IntKind.i64 0), (.int Go.IntKind.i64 0), (.str []), (.str []), (.str []), (.str []), (.int Go.IntKind.i64 0), (.int Go.IntKind.i64 0), .nils] 0 [], [], none⟩,
   ⟨(some 61), .mv (.t 0), [], none⟩,
   ⟨(some 62), .nilck (.t 61), [2], none⟩,
   ⟨(some 63), .faddr 2 (.t 62), [3], none⟩,
   ⟨(some 64), .load none (.t 63), [4], none⟩,
   ⟨(some 65), .append false 20 192 (.t 60) (.t 64), [1, 5], none⟩,
   ⟨(some 66), .load (some 20) (.t 3), [], none⟩,
   ⟨(some 67), .lit 20 [(.int Go.IntKind.u32 0), (.int Go.IntKind.u32 0), (.int Go.IntKind.u64 0), (.int Go.IntKind.u64 0), (.int Go.IntKind.u32 0), (.int Go.IntKind.u32 0), (.int Go.IntKind.i64 0), (.int Go.IntKind.i64 0), (.int Go.IntKind.i64 0), (.int Go.IntKind.i64 0), (.int Go.IntKind.i64 0), (.int Go.IntKind.i64 0), (.int Go.IntKind.i64 0), (.str []), (.str []), (.str []), (.str []), (.int Go.IntKind.i64 0), (.int Go.IntKind.i64 0), .nils] 1 [(0, (.t 66))], [7], none⟩,
   ⟨(some 68), .append false 20 192 (.t 65) (.t 67), [6, 8, 6], none⟩,
   ⟨(some 69), .nilck (.t 59), [0, 0, 1, 2, 3, 4, 5, 6, 7, 8, 9], none⟩,
   ⟨(some 70), .faddr 2 (.t 69), [10, 0, 1, 2, 3, 4, 5, 6, 7, 8, 9], none⟩,
   ⟨none, .store 1 (.t 70) (.t 68), [11, 9, 9, 0, 1, 2, 3, 4, 5, 6, 7, 8, 9], none⟩]
def vf33r13 : List VOper :=
  [⟨(some 71), .load (some 20) (.t 3), [], none⟩,
   ⟨none, .store 20 (.t 4) (.t 71), [0, 0], none⟩,
   ⟨(some 5), .asg (.c (.p (.int Go.IntKind.i64 0))), [1, 0, 1], none⟩]
def vf33 : VFun where
  vars := [0, 1, 13, 14, 15, 16]
  boxes := [3, 4, 6]
  mv := []
  res := [(.cell 4 (some 20)), (.t 5)]
  body := (.seq (.region none vf33r0 [0, 3, 4, 13, 14, 15, 16] [0, 3, 4, 13, 14, 15, 16])
 (.seq (.seq (.region none vf33r1 [0, 3, 4, 17] [0, 3, 4, 17])
 (.cond (.t 17) (.seq (.region none vf33r2 [4, 5] [4, 5])
 .ret)
 .skip))
 (.seq (.seq (.region (some ([], (.one 0 (.one 1 (.one 2 (.one 3 (.one 4 (.one 5 (.one 6 .fin))))))))) vf33r3 [0, 3, 4, 25] [0, 3, 4, 25])
 (.cond (.t 25) (.seq (.region none vf33r4 [4, 5] [4, 5])
 .ret)
 .skip))
 (.seq (.region none vf33r5 [0, 3, 4, 7, 33] [0, 3, 4, 7, 33])
 (.seq (.seq (.region none vf33r6 [0, 3, 4, 7, 33, 34] [0, 3, 4, 7, 33, 34])
 (.cond (.t 34) (.seq (.region none vf33r7 [4, 5] [4, 5])
 .ret)
 .skip))
 (.seq (.seq (.region (some ([], (.one 0 (.one 1 (.one 2 (.one 3 (.one 4 (.one 5 (.one 6 (.one 7 (.one 8 (.one 9 .fin)))))))))))) vf33r8 [0, 3, 4, 45] [0, 3, 4, 45])
 (.cond (.t 45) (.seq (.region none vf33r9 [4, 5] [4, 5])
 .ret)
 .skip))
 (.seq (.region none vf33r10 [0, 3, 4] [0, 3, 4])
 (.seq (.region none vf33r11 [0, 3, 4] [0, 3, 4])
 (.seq (.region (some ([6, 9, 12], (.one 1 (.one 2 (.one 3 (.one 4 (.one 5 (.alt 0 (.alt 6 (.one 7 (.one 8 (.one 9 (.one 10 (.one 11 (.one 12 .fin)))))) (.alt 7 (.alt 6 (.one 8 (.one 9 (.one 10 (.one 11 (.one 12 .fin))))) (.alt 8 (.one 6 (.one 9 (.one 10 (.one 11 (.one 12 .fin))))) .fin)) .fin)) (.alt 6 (.one 7 (.one 8 (.alt 0 (.one 9 (.one 10 (.one 11 (.one 12 .fin)))) (.alt 9 (.one 0 (.one 10 (.one 11 (.one 12 .fin)))) .fin)))) (.alt 7 (.alt 0 (.alt 6 (.one 8 (.one 9 (.one 10 (.one 11 (.one 12 .fin))))) (.alt 8 (.one 6 (.one 9 (.one 10 (.one 11 (.one 12 .fin))))) .fin)) (.alt 6 (.one 8 (.alt 0 (.one 9 (.one 10 (.one 11 (.one 12 .fin)))) (.alt 9 (.one 0 (.one 10 (.one 11 (.one 12 .fin)))) .fin))) (.alt 8 (.alt 0 (.one 6 (.one 9 (.one 10 (.one 11 (.one 12 .fin))))) (.alt 6 (.alt 0 (.one 9 (.one 10 (.one 11 (.one 12 .fin)))) (.alt 9 (.one 0 (.one 10 (.one 11 (.one 12 .fin)))) .fin)) .fin)) .fin))) .fin)))))))))) vf33r12 [3, 4] [3, 4])
 (.seq (.region none vf33r13 [4, 5] [4, 5])
 .ret))))))))))

def vf34r0 : List VOper :=
  [⟨(some 1), .box false 20 (.t 0), [], none⟩,
   ⟨(some 2), .alloc false [(.int Go.IntKind.u32 0), (.int Go.IntKind.u32 0), (.int Go.IntKind.u64 0), (.int Go.IntKind.u64 0), (.int Go.IntKind.u32 0), (.int Go.IntKind.u32 0), (.int Go.IntKind.i64 0), (.int Go.IntKind.i64 0), (.int Go.IntKind.i64 0), (.int Go.IntKind.i64 0), (.int Go.IntKind.i64 0), (.int Go.IntKind.i64 0), (.int Go.IntKind.i64 0), (.str []), (.str []), (.str []), (.str []), (.int Go.IntKind.i64 0), (.int Go.IntKind.i64 0), .nils], [], none⟩]
def vf34r1 : List VOper :=
  [⟨(some 3), .faddr 0 (.t 1), [], none⟩,
   ⟨(some 4), .load none (.t 3), [0], none⟩,
   ⟨(some 5), .faddr 1 (.t 1), [], none⟩,
   ⟨(some 6), .load none (.t 5), [2], none⟩,
   ⟨(some 7), .faddr 2 (.t 1), [], none⟩,
   ⟨(some 8), .load (some 7) (.t 7), [4], none⟩,
   ⟨(some 9), .faddr 9 (.t 1), [], none⟩,
   ⟨(some 10), .load (some 2) (.t 9), [6], none⟩,
   ⟨(some 11), .faddr 11 (.t 1), [], none⟩,
   ⟨(some 12), .load (some 2) (.t 11), [8], none⟩,
   ⟨(some 13), .faddr 13 (.t 1), [], none⟩,
   ⟨(some 14), .faddr 0 (.t 13), [10], none⟩,
   ⟨(some 15), .load none (.t 14), [11], none⟩,
   ⟨(some 16), .faddr 13 (.t 1), [], none⟩,
   ⟨(some 17), .faddr 1 (.t 16), [13], none⟩,
   ⟨(some 18), .load none (.t 17), [14], none⟩,
   ⟨(some 19), .build [(.p (.str [])), (.p (.str []))] [(0, 1, (.t 15)), (1, 1, (.t 18))], [12, 15], none⟩,
   ⟨(some 20), .faddr 15 (.t 1), [], none⟩,
   ⟨(some 21), .faddr 0 (.t 20), [17], none⟩,
   ⟨(some 22), .load none (.t 21), [18], none⟩,
   ⟨(some 23), .faddr 15 (.t 1), [], none⟩,
   ⟨(some 24), .faddr 1 (.t 23), [20], none⟩,
   ⟨(some 25), .load none (.t 24), [21], none⟩,
   ⟨(some 26), .build [(.p (.str [])), (.p (.str []))] [(0, 1, (.t 22)), (1, 1, (.t 25))], [19, 22], none⟩,
   ⟨(some 27), .faddr 17 (.t 1), [], none⟩,
   ⟨(some 28), .load none (.t 27), [24], none⟩,
   ⟨(some 29), .faddr 18 (.t 1), [], none⟩,
   ⟨(some 30), .load none (.t 29), [26], none⟩,
   ⟨(some 31), .faddr 19 (.t 1), [], none⟩,
   ⟨(some 32), .load none (.t 31), [28], none⟩,
   ⟨(some 33), .build [(.p (.int Go.IntKind.u32 0)), (.p (.int Go.IntKind.u32 0)), (.p (.int Go.IntKind.u64 0)), (.p (.int Go.IntKind.u64 0)), (.p (.int Go.IntKind.u32 0)), (.p (.int Go.IntKind.u32 0)), (.p (.int Go.IntKind.i64 0)), (.p (.int Go.IntKind.i64 0)), (.p (.int Go.IntKind.i64 0)), (.p (.int Go.IntKind.i64 0)), (.p (.int Go.IntKind.i64 0)), (.p (.int Go.IntKind.i64 0)), (.p (.int Go.IntKind.i64 0)), (.p (.str [])), (.p (.str [])), (.p (.str [])), (.p (.str [])), (.p (.int Go.IntKind.i64 0)), (.p (.int Go.IntKind.i64 0)), (.p .nils)] [(0, 1, (.t 4)), (1, 1, (.t 6)), (2, 7, (.t 8)), (9, 2, (.t 10)), (11, 2, (.t 12)), (13, 2, (.t 19)), (15, 2, (.t 26)), (17, 1, (.t 28)), (18, 1, (.t 30)), (19, 1, (.t 32))], [1, 3, 5, 7, 9, 16, 23, 25, 27, 29], none⟩,
   ⟨none, .store 20 (.t 2) (.t 33), [30, 0, 1, 2, 3, 4, 5, 6, 7, 8, 9, 10, 11, 12, 13, 14, 15, 16, 17, 18, 19, 20, 21, 22, 23, 24, 25, 26, 27, 28, 29, 30], none⟩]
def vf34 : VFun where
  vars := [0]
  boxes := [1, 2]
  mv := []
  res := [(.cell 2 (some 20))]
  body := (.seq (.region none vf34r0 [1, 2] [1, 2])
 (.seq (.region none vf34r1 [2] [2])
 .ret))

def vf35r0 : List VOper :=
  [⟨(some 2), .asg (.c (.p .nils)), [], none⟩]
def vf35r1 : List VOper :=
  [⟨(some 3), .asg (.c (.p .nils)), [], none⟩]
def vf35r2 : List VOper :=
  [⟨(some 5), .mv (.t 0), [], none⟩,
   ⟨(some 6), .call 53 [(.t 5)], [0], none⟩,
   ⟨(some 7), .mv (.c (.p (.int Go.IntKind.i64 0))), [], none⟩]
def vf35r3 : List VOper :=
  [⟨(some 8), .bin Go.BinOp.lss .no (.t 7) (.t 6), [], none⟩]
def vf35r4 : List VOper :=
  [⟨(some 9), .mv (.t 7), [], none⟩,
   ⟨(some 4), .asg (.t 9), [0, 0], none⟩]
def vf35r5 : List VOper :=
  [⟨(some 10), .mv (.t 3), [], none⟩,
   ⟨(some 11), .mv (.t 0), [], none⟩,
   ⟨(some 12), .nilck (.t 11), [1], none⟩,
   ⟨(some 13), .faddr 0 (.t 12), [2], none⟩,
   ⟨(some 14), .load none (.t 13), [3], none⟩,
   ⟨(some 15), .mv (.t 4), [], none⟩,
   ⟨(some 16), .iaddrS 21 (.t 14) (.t 15), [4, 5], none⟩,
   ⟨(some 17), .faddr 1 (.t 16), [6], none⟩,
   ⟨(some 18), .load (some 20) (.t 17), [7], none⟩,
   ⟨(some 19), .lit 20 [(.int Go.IntKind.u32 0), (.int Go.IntKind.u32 0), (.int Go.IntKind.u64 0), (.int Go.IntKind.u64 0), (.int Go.IntKind.u32 0), (.int Go.IntKind.u32 0), (.int Go.IntKind.i64 0), (.int Go.IntKind.i64 0), (.int Go.IntKind.i64 0), (.int Go.IntKind.i64 0), (.int Go.IntKind.i64 0), (.int Go.IntKind.i64 0), (.int Go.IntKind.i64 0), (.str []), (.str []), (.str []), (.str []), (.int Go.IntKind.i64 0), (.int Go.IntKind.i64 0), .nils] 1 [(0, (.t 18))], [8], none⟩,
   ⟨(some 20), .append false 20 192 (.t 10) (.t 19), [0, 9], none⟩,
   ⟨(some 3), .asg (.t 20), [10, 10, 0, 1, 2, 3, 4, 5, 6, 7, 8, 9, 10], none⟩]
def vf35r6 : List VOper :=
  [⟨(some 21), .bin Go.BinOp.add .no (.t 7) (.c (.p (.int Go.IntKind.i64 1))), [], none⟩,
   ⟨(some 7), .mv (.t 21), [0], none⟩]
def vf35r7 : List VOper :=
  [⟨(some 22), .mv (.t 3), [], none⟩,
   ⟨(some 2), .asg (.t 22), [0, 0], none⟩]
def vf35 : VFun where
  vars := [0]
  boxes := []
  mv := []
  res := [(.t 2)]
  body := (.seq (.region none vf35r0 [0] [0])
 (.seq (.region none vf35r1 [0, 3, 20] [0, 3, 20])
 (.seq (.seq (.region none vf35r2 [0, 3, 6, 7, 20, 21] [0, 3, 6, 7, 20, 21])
 (.block 0 (.loop (.seq (.region none vf35r3 [0, 3, 6, 7, 8, 20, 21] [0, 3, 6, 7, 8, 20, 21])
 (.seq (.cond (.t 8) .skip
 (.exit 0))
 (.seq (.block 1 (.seq (.region none vf35r4 [0, 3, 4, 6, 7, 9, 20, 21] [0, 3, 4, 6, 7, 9, 20, 21])
 (.region none vf35r5 [0, 3, 6, 7, 20, 21] [0, 3, 6, 7, 20, 21])))
 (.region none vf35r6 [0, 3, 6, 7, 20, 21] [0, 3, 6, 7, 20, 21])))))))
 (.seq (.region none vf35r7 [2, 3, 20, 22] [2, 3, 20, 22])
 .ret))))

def vf36r0 : List VOper :=
  [⟨(some 1), .box false 20 (.t 0), [], none⟩,
   ⟨(some 2), .alloc false [(.int Go.IntKind.u32 0), (.int Go.IntKind.u32 0), (.int Go.IntKind.u64 0), (.int Go.IntKind.u64 0), (.int Go.IntKind.u32 0), (.int Go.IntKind.u32 0), (.int Go.IntKind.i64 0), (.int Go.IntKind.i64 0), (.int Go.IntKind.i64 0), (.int Go.IntKind.i64 0), (.int Go.IntKind.i64 0), (.int Go.IntKind.i64 0), (.int Go.IntKind.i64 0), (.str []), (.str []), (.str []), (.str []), (.int Go.IntKind.i64 0), (.int Go.IntKind.i64 0), .nils], [], none⟩]
def vf36r1 : List VOper :=
  [⟨(some 3), .faddr 19 (.t 1), [], none⟩,
   ⟨(some 4), .load none (.t 3), [0], none⟩,
   ⟨(some 5), .call 49 [(.t 4)], [1], none⟩,
   ⟨(some 6), .faddr 19 (.t 1), [0, 1, 2], none⟩,
   ⟨none, .store 1 (.t 6) (.t 5), [3, 2, 2, 0, 1, 2], none⟩]
def vf36r2 : List VOper :=
  [⟨(some 7), .load (some 20) (.t 1), [], none⟩,
   ⟨none, .store 20 (.t 2) (.t 7), [0, 0], none⟩]
def vf36 : VFun where
  vars := [0]
  boxes := [1, 2]
  mv := []
  res := [(.cell 2 (some 20))]
  body := (.seq (.region none vf36r0 [1, 2] [1, 2])
 (.seq (.region none vf36r1 [1, 2] [1, 2])
 (.seq (.region none vf36r2 [2] [2])
 .ret)))

def vf37r0 : List VOper :=
  [⟨(some 0), .alloc false [(.int Go.IntKind.u64 0), (.int Go.IntKind.u64 0), (.int Go.IntKind.u32 0), (.int Go.IntKind.u32 0), (.int Go.IntKind.i64 0), (.int Go.IntKind.i64 0), (.int Go.IntKind.i64 0)], [], none⟩]
def vf37r1 : List VOper :=
  [⟨(some 1), .build [(.p (.int Go.IntKind.u64 0)), (.p (.int Go.IntKind.u64 0)), (.p (.int Go.IntKind.u32 0)), (.p (.int Go.IntKind.u32 0)), (.p (.int Go.IntKind.i64 0)), (.p (.int Go.IntKind.i64 0)), (.p (.int Go.IntKind.i64 0))] [(0, 1, (.c (.p (.int Go.IntKind.u64 1)))), (1, 1, (.c (.p (.int Go.IntKind.u64 2)))), (2, 1, (.c (.p (.int Go.IntKind.u32 3)))), (3, 1, (.c (.p (.int Go.IntKind.u32 4)))), (4, 1, (.c (.p (.int Go.IntKind.i64 6)))), (5, 1, (.c (.p (.int Go.IntKind.i64 5)))), (6, 1, (.c (.p (.int Go.IntKind.i64 80))))], [], none⟩,
   ⟨none, .store 7 (.t 0) (.t 1), [0, 0], none⟩]
def vf37 : VFun where
  vars := []
  boxes := [0]
  mv := []
  res := [(.cell 0 (some 7))]
  body := (.seq (.region none vf37r0 [0] [0])
 (.seq (.region none vf37r1 [0] [0])
 .ret))

def vf38r0 : List VOper :=
  [⟨(some 1), .box false 7 (.t 0), [], none⟩,
   ⟨(some 2), .alloc false [(.int Go.IntKind.u64 0), (.int Go.IntKind.u64 0), (.int Go.IntKind.u32 0), (.int Go.IntKind.u32 0), (.int Go.IntKind.i64 0), (.int Go.IntKind.i64 0), (.int Go.IntKind.i64 0)], [], none⟩]
def vf38r1 : List VOper :=
  [⟨(some 3), .faddr 1 (.t 1), [], none⟩,
   ⟨(some 4), .load none (.t 3), [0], none⟩,
   ⟨(some 5), .faddr 0 (.t 1), [], none⟩,
   ⟨(some 6), .load none (.t 5), [2], none⟩,
   ⟨(some 7), .faddr 3 (.t 1), [], none⟩,
   ⟨(some 8), .load none (.t 7), [4], none⟩,
   ⟨(some 9), .faddr 2 (.t 1), [], none⟩,
   ⟨(some 10), .load none (.t 9), [6], none⟩,
   ⟨(some 11), .faddr 4 (.t 1), [], none⟩,
   ⟨(some 12), .load none (.t 11), [8], none⟩,
   ⟨(some 13), .faddr 6 (.t 1), [], none⟩,
   ⟨(some 14), .load none (.t 13), [10], none⟩,
   ⟨(some 15), .faddr 5 (.t 1), [], none⟩,
   ⟨(some 16), .load none (.t 15), [12], none⟩,
   ⟨(some 17), .build [(.p (.int Go.IntKind.u64 0)), (.p (.int Go.IntKind.u64 0)), (.p (.int Go.IntKind.u32 0)), (.p (.int Go.IntKind.u32 0)), (.p (.int Go.IntKind.i64 0)), (.p (.int Go.IntKind.i64 0)), (.p (.int Go.IntKind.i64 0))] [(0, 1, (.t 4)), (1, 1, (.t 6)), (2, 1, (.t 8)), (3, 1, (.t 10)), (4, 1, (.t 12)), (5, 1, (.t 14)), (6, 1, (.t 16))], [1, 3, 5, 7, 9, 11, 13], none⟩,
   ⟨none, .store 7 (.t 2) (.t 17), [14, 0, 1, 2, 3, 4, 5, 6, 7, 8, 9, 10, 11, 12, 13, 14], none⟩]
def vf38 : VFun where
  vars := [0]
  boxes := [1, 2]
  mv := []
  res := [(.cell 2 (some 7))]
  body := (.seq (.region none vf38r0 [1, 2] [1, 2])
 (.seq (.region none vf38r1 [2] [2])
 .ret))

def vf39r0 : List VOper :=
  [⟨(some 3), .box false 7 (.t 1), [], none⟩,
   ⟨(some 4), .alloc false [(.int Go.IntKind.u32 0), (.int Go.IntKind.u32 0), (.int Go.IntKind.u64 0), (.int Go.IntKind.u64 0), (.int Go.IntKind.u32 0), (.int Go.IntKind.u32 0), (.int Go.IntKind.i64 0), (.int Go.IntKind.i64 0), (.int Go.IntKind.i64 0), (.int Go.IntKind.i64 0), (.int Go.IntKind.i64 0), (.int Go.IntKind.i64 0), (.int Go.IntKind.i64 0), (.str []), (.str []), (.str []), (.str []), (.int Go.IntKind.i64 0), (.int Go.IntKind.i64 0), .nils], [], none⟩,
   ⟨(some 5), .asg (.c (.p (.bool false))), [], none⟩]
def vf39r1 : List VOper :=
  [⟨(some 8), .mv (.t 0), [], none⟩,
   ⟨(some 9), .nilck (.t 8), [0], none⟩,
   ⟨(some 10), .faddr 2 (.t 9), [1], none⟩,
   ⟨(some 11), .load none (.t 10), [2], none⟩,
   ⟨(some 12), .len false (.t 11), [3], none⟩,
   ⟨(some 13), .mv (.c (.p (.int Go.IntKind.i64 0))), [], none⟩]
def vf39r2 : List VOper :=
  [⟨(some 14), .bin Go.BinOp.lss .no (.t 13) (.t 12), [], none⟩]
def vf39r3 : List VOper :=
  [⟨(some 15), .iaddrS 20 (.t 11) (.t 13), [], none⟩,
   ⟨(some 16), .load (some 20) (.t 15), [0], none⟩,
   ⟨(some 7), .alloc false [(.int Go.IntKind.u32 0), (.int Go.IntKind.u32 0), (.int Go.IntKind.u64 0), (.int Go.IntKind.u64 0), (.int Go.IntKind.u32 0), (.int Go.IntKind.u32 0), (.int Go.IntKind.i64 0), (.int Go.IntKind.i64 0), (.int Go.IntKind.i64 0), (.int Go.IntKind.i64 0), (.int Go.IntKind.i64 0), (.int Go.IntKind.i64 0), (.int Go.IntKind.i64 0), (.str []), (.str []), (.str []), (.str []), (.int Go.IntKind.i64 0), (.int Go.IntKind.i64 0), .nils], [], none⟩,
   ⟨none, .store 20 (.t 7) (.t 16), [2, 1, 0, 1, 2], none⟩]
def vf39r4 : List VOper :=
  [⟨(some 17), .faddr 2 (.t 7), [], none⟩,
   ⟨(some 18), .load (some 7) (.t 17), [0], none⟩,
   ⟨(some 19), .load (some 7) (.t 3), [], none⟩,
   ⟨(some 20), .bin Go.BinOp.eql (.struct [.int, .int, .int, .int, .int, .int, .int]) (.t 18) (.t 19), [1, 2], none⟩]
def vf39r5 : List VOper :=
  [⟨(some 21), .load (some 20) (.t 7), [], none⟩,
   ⟨none, .store 20 (.t 4) (.t 21), [0, 0], none⟩,
   ⟨(some 5), .asg (.c (.p (.bool true))), [1, 0, 1], none⟩]
def vf39r6 : List VOper :=
  [⟨(some 22), .bin Go.BinOp.add .no (.t 13) (.c (.p (.int Go.IntKind.i64 1))), [], none⟩,
   ⟨(some 13), .mv (.t 22), [0], none⟩]
def vf39r7 : List VOper :=
  [⟨(some 23), .build [(.p (.int Go.IntKind.u32 0)), (.p (.int Go.IntKind.u32 0)), (.p (.int Go.IntKind.u64 0)), (.p (.int Go.IntKind.u64 0)), (.p (.int Go.IntKind.u32 0)), (.p (.int Go.IntKind.u32 0)), (.p (.int Go.IntKind.i64 0)), (.p (.int Go.IntKind.i64 0)), (.p (.int Go.IntKind.i64 0)), (.p (.int Go.IntKind.i64 0)), (.p (.int Go.IntKind.i64 0)), (.p (.int Go.IntKind.i64 0)), (.p (.int Go.IntKind.i64 0)), (.p (.str [])), (.p (.str [])), (.p (.str [])), (.p (.str [])), (.p (.int Go.IntKind.i64 0)), (.p (.int Go.IntKind.i64 0)), (.p .nils)] [], [], none⟩,
   ⟨none, .store 20 (.t 4) (.t 23), [0, 0], none⟩,
   ⟨(some 5), .asg (.c (.p (.bool false))), [1, 0, 1], none⟩]
def vf39 : VFun where
  vars := [0, 1]
  boxes := [3, 4, 7]
  mv := []
  res := [(.cell 4 (some 20)), (.t 5)]
  body := (.seq (.region none vf39r0 [0, 3, 4] [0, 3, 4])
 (.seq (.seq (.region none vf39r1 [3, 4, 11, 12, 13, 22] [3, 4, 11, 12, 13, 22])
 (.block 0 (.loop (.seq (.region none vf39r2 [3, 4, 11, 12, 13, 14, 22] [3, 4, 11, 12, 13, 14, 22])
 (.seq (.cond (.t 14) .skip
 (.exit 0))
 (.seq (.block 1 (.seq (.region none vf39r3 [3, 4, 7, 11, 12, 13, 22] [3, 4, 7, 11, 12, 13, 22])
 (.seq (.region none vf39r4 [3, 4, 7, 11, 12, 13, 20, 22] [3, 4, 7, 11, 12, 13, 20, 22])
 (.cond (.t 20) (.seq (.region none vf39r5 [4, 5] [4, 5])
 .ret)
 .skip))))
 (.region none vf39r6 [3, 4, 11, 12, 13, 22] [3, 4, 11, 12, 13, 22])))))))
 (.seq (.region none vf39r7 [4, 5] [4, 5])
 .ret)))

def vf40r0 : List VOper :=
  [⟨(some 4), .alloc false [(.int Go.IntKind.u32 0), (.int Go.IntKind.u32 0), (.int Go.IntKind.u64 0), (.int Go.IntKind.u64 0), (.int Go.IntKind.u32 0), (.int Go.IntKind.u32 0), (.int Go.IntKind.i64 0), (.int Go.IntKind.i64 0), (.int Go.IntKind.i64 0), (.int Go.IntKind.i64 0), (.int Go.IntKind.i64 0), (.int Go.IntKind.i64 0), (.int Go.IntKind.i64 0), (.str []), (.str []), (.str []), (.str []), (.int Go.IntKind.i64 0), (.int Go.IntKind.i64 0), .nils], [], none⟩,
   ⟨(some 5), .asg (.c (.p (.bool false))), [], none⟩]
def vf40r1 : List VOper :=
  [⟨(some 8), .mv (.t 0), [], none⟩,
   ⟨(some 9), .nilck (.t 8), [0], none⟩,
   ⟨(some 10), .faddr 2 (.t 9), [1], none⟩,
   ⟨(some 11), .load none (.t 10), [2], none⟩,
   ⟨(some 12), .len false (.t 11), [3], none⟩,
   ⟨(some 13), .mv (.c (.p (.int Go.IntKind.i64 0))), [], none⟩]
def vf40r2 : List VOper :=
  [⟨(some 14), .bin Go.BinOp.lss .no (.t 13) (.t 12), [], none⟩]
def vf40r3 : List VOper :=
  [⟨(some 15), .iaddrS 20 (.t 11) (.t 13), [], none⟩,
   ⟨(some 16), .load (some 20) (.t 15), [0], none⟩,
   ⟨(some 7), .alloc false [(.int Go.IntKind.u32 0), (.int Go.IntKind.u32 0), (.int Go.IntKind.u64 0), (.int Go.IntKind.u64 0), (.int Go.IntKind.u32 0), (.int Go.IntKind.u32 0), (.int Go.IntKind.i64 0), (.int Go.IntKind.i64 0), (.int Go.IntKind.i64 0), (.int Go.IntKind.i64 0), (.int Go.IntKind.i64 0), (.int Go.IntKind.i64 0), (.int Go.IntKind.i64 0), (.str []), (.str []), (.str []), (.str []), (.int Go.IntKind.i64 0), (.int Go.IntKind.i64 0), .nils], [], none⟩,
   ⟨none, .store 20 (.t 7) (.t 16), [2, 1, 0, 1, 2], none⟩]
def vf40r4 : List VOper :=
  [⟨(some 17), .faddr 0 (.t 7), [], none⟩,
   ⟨(some 18), .load none (.t 17), [0], none⟩,
   ⟨(some 19), .mv (.t 1), [], none⟩,
   ⟨(some 20), .bin Go.BinOp.eql .no (.t 18) (.t 19), [1, 2], none⟩]
def vf40r5 : List VOper :=
  [⟨(some 21), .load (some 20) (.t 7), [], none⟩,
   ⟨none, .store 20 (.t 4) (.t 21), [0, 0], none⟩,
   ⟨(some 5), .asg (.c (.p (.bool true))), [1, 0, 1], none⟩]
def vf40r6 : List VOper :=
  [⟨(some 22), .bin Go.BinOp.add .no (.t 13) (.c (.p (.int Go.IntKind.i64 1))), [], none⟩,
   ⟨(some 13), .mv (.t 22), [0], none⟩]
def vf40r7 : List VOper :=
  [⟨(some 23), .build [(.p (.int Go.IntKind.u32 0)), (.p (.int Go.IntKind.u32 0)), (.p (.int Go.IntKind.u64 0)), (.p (.int Go.IntKind.u64 0)), (.p (.int Go.IntKind.u32 0)), (.p (.int Go.IntKind.u32 0)), (.p (.int Go.IntKind.i64 0)), (.p (.int Go.IntKind.i64 0)), (.p (.int Go.IntKind.i64 0)), (.p (.int Go.IntKind.i64 0)), (.p (.int Go.IntKind.i64 0)), (.p (.int Go.IntKind.i64 0)), (.p (.int Go.IntKind.i64 0)), (.p (.str [])), (.p (.str [])), (.p (.str [])), (.p (.str [])), (.p (.int Go.IntKind.i64 0)), (.p (.int Go.IntKind.i64 0)), (.p .nils)] [], [], none⟩,
   ⟨none, .store 20 (.t 4) (.t 23), [0, 0], none⟩,
   ⟨(some 5), .asg (.c (.p (.bool false))), [1, 0, 1], none⟩]
def vf40 : VFun where
  vars := [0, 1]
  boxes := [4, 7]
  mv := []
  res := [(.cell 4 (some 20)), (.t 5)]
  body := (.seq (.region none vf40r0 [0, 1, 4] [0, 1, 4])
 (.seq (.seq (.region none vf40r1 [1, 4, 11, 12, 13, 22] [1, 4, 11, 12, 13, 22])
 (.block 0 (.loop (.seq (.region none vf40r2 [1, 4, 11, 12, 13, 14, 22] [1, 4, 11, 12, 13, 14, 22])
 (.seq (.cond (.t 14) .skip
 (.exit 0))
 (.seq (.block 1 (.seq (.region none vf40r3 [1, 4, 7, 11, 12, 13, 22] [1, 4, 7, 11, 12, 13, 22])
 (.seq (.region none vf40r4 [1, 4, 7, 11, 12, 13, 20, 22] [1, 4, 7, 11, 12, 13, 20, 22])
 (.cond (.t 20) (.seq (.region none vf40r5 [4, 5] [4, 5])
 .ret)
 .skip))))
 (.region none vf40r6 [1, 4, 11, 12, 13, 22] [1, 4, 11, 12, 13, 22])))))))
 (.seq (.region none vf40r7 [4, 5] [4, 5])
 .ret)))

def vf41r0 : List VOper :=
  [⟨(some 3), .box false 7 (.t 1), [], none⟩,
   ⟨(some 4), .alloc false [(.int Go.IntKind.u32 0), (.int Go.IntKind.u32 0), (.int Go.IntKind.u64 0), (.int Go.IntKind.u64 0), (.int Go.IntKind.u32 0), (.int Go.IntKind.u32 0), (.int Go.IntKind.i64 0), (.int Go.IntKind.i64 0), (.int Go.IntKind.i64 0), (.int Go.IntKind.i64 0), (.int Go.IntKind.i64 0), (.int Go.IntKind.i64 0), (.int Go.IntKind.i64 0), (.str []), (.str []), (.str []), (.str []), (.int Go.IntKind.i64 0), (.int Go.IntKind.i64 0), .nils], [], none⟩,
   ⟨(some 5), .asg (.c (.p (.bool false))), [], none⟩]
def vf41r1 : List VOper :=
  [⟨(some 9), .mv (.t 0), [], none⟩,
   ⟨(some 10), .load (some 7) (.t 3), [], none⟩,
   ⟨(some 11), .call 16 [(.t 10)], [1], none⟩,
   ⟨(some 12), .call 39 [(.t 9), (.t 11)], [0, 2, 2], none⟩,
   ⟨(some 8), .mv (.t 12), [3], none⟩,
   ⟨(some 13), .ext (.t 8) 0, [4], none⟩,
   ⟨(some 14), .ext (.t 8) 1, [4], none⟩,
   ⟨(some 6), .alloc false [(.int Go.IntKind.u32 0), (.int Go.IntKind.u32 0), (.int Go.IntKind.u64 0), (.int Go.IntKind.u64 0), (.int Go.IntKind.u32 0), (.int Go.IntKind.u32 0), (.int Go.IntKind.i64 0), (.int Go.IntKind.i64 0), (.int Go.IntKind.i64 0), (.int Go.IntKind.i64 0), (.int Go.IntKind.i64 0), (.int Go.IntKind.i64 0), (.int Go.IntKind.i64 0), (.str []), (.str []), (.str []), (.str []), (.int Go.IntKind.i64 0), (.int Go.IntKind.i64 0), .nils], [], none⟩,
   ⟨none, .store 20 (.t 6) (.t 13), [7, 5, 3, 0, 1, 2, 3, 4, 5, 7], none⟩,
   ⟨(some 7), .asg (.t 14), [6, 8, 0, 1, 2, 3, 4, 5, 6, 7, 8], none⟩]
def vf41r2 : List VOper :=
  [⟨(some 15), .mv (.t 7), [], none⟩,
   ⟨(some 16), .un Go.UnOp.not (.t 15), [0], none⟩,
   ⟨(some 17), .mv (.t 16), [1], none⟩,
   ⟨(some 18), .faddr 17 (.t 6), [2], (some (2, false))⟩,
   ⟨(some 19), .load none (.t 18), [3, 2], (some (2, false))⟩,
   ⟨(some 20), .bin Go.BinOp.neq .no (.t 19) (.c (.p (.int Go.IntKind.i64 3))), [4, 2], (some (2, false))⟩,
   ⟨(some 21), .pick (.t 17) (.c (.p (.bool true))) (.t 20), [2, 5], none⟩]
def vf41r3 : List VOper :=
  [⟨(some 22), .build [(.p (.int Go.IntKind.u32 0)), (.p (.int Go.IntKind.u32 0)), (.p (.int Go.IntKind.u64 0)), (.p (.int Go.IntKind.u64 0)), (.p (.int Go.IntKind.u32 0)), (.p (.int Go.IntKind.u32 0)), (.p (.int Go.IntKind.i64 0)), (.p (.int Go.IntKind.i64 0)), (.p (.int Go.IntKind.i64 0)), (.p (.int Go.IntKind.i64 0)), (.p (.int Go.IntKind.i64 0)), (.p (.int Go.IntKind.i64 0)), (.p (.int Go.IntKind.i64 0)), (.p (.str [])), (.p (.str [])), (.p (.str [])), (.p (.str [])), (.p (.int Go.IntKind.i64 0)), (.p (.int Go.IntKind.i64 0)), (.p .nils)] [], [], none⟩,
   ⟨none, .store 20 (.t 4) (.t 22), [0, 0], none⟩,
   ⟨(some 5), .asg (.c (.p (.bool false))), [1, 0, 1], none⟩]
def vf41r4 : List VOper :=
  [⟨(some 23), .load (some 20) (.t 6), [], none⟩,
   ⟨none, .store 20 (.t 4) (.t 23), [0, 0], none⟩,
   ⟨(some 5), .asg (.c (.p (.bool true))), [1, 0, 1], none⟩]
def vf41 : VFun where
  vars := [0, 1, 18, 19, 20]
  boxes := [3, 4, 6]
  mv := []
  res := [(.cell 4 (some 20)), (.t 5)]
  body := (.seq (.region none vf41r0 [0, 3, 4, 18, 19, 20] [0, 3, 4, 18, 19, 20])
 (.seq (.region none vf41r1 [4, 6, 7, 14, 18, 19, 20] [4, 6, 7, 14, 18, 19, 20])
 (.seq (.seq (.region none vf41r2 [4, 6, 21] [4, 6, 21])
 (.cond (.t 21) (.seq (.region none vf41r3 [4, 5] [4, 5])
 .ret)
 .skip))
 (.seq (.region none vf41r4 [4, 5] [4, 5])
 .ret))))

def vf42r0 : List VOper :=
  [⟨(some 1), .box false 7 (.t 0), [], none⟩,
   ⟨(some 2), .asg (.c (.p (.bool false))), [], none⟩]
def vf42r1 : List VOper :=
  [⟨(some 3), .faddr 0 (.t 1), [], none⟩,
   ⟨(some 4), .load none (.t 3), [0], none⟩,
   ⟨(some 5), .bin Go.BinOp.gtr .no (.t 4) (.c (.p (.int Go.IntKind.u64 281474976710655))), [1], none⟩,
   ⟨(some 6), .mv (.t 5), [2], none⟩,
   ⟨(some 7), .faddr 1 (.t 1), [3], (some (3, false))⟩,
   ⟨(some 8), .load none (.t 7), [4, 3], (some (3, false))⟩,
   ⟨(some 9), .bin Go.BinOp.gtr .no (.t 8) (.c (.p (.int Go.IntKind.u64 281474976710655))), [5, 3], (some (3, false))⟩,
   ⟨(some 10), .pick (.t 6) (.c (.p (.bool true))) (.t 9), [3, 6], none⟩,
   ⟨(some 11), .mv (.t 10), [7, 3], none⟩,
   ⟨(some 12), .faddr 4 (.t 1), [8], (some (8, false))⟩,
   ⟨(some 13), .load none (.t 12), [9, 8], (some (8, false))⟩,
   ⟨(some 14), .bin Go.BinOp.lss .no (.t 13) (.c (.p (.int Go.IntKind.i64 0))), [10, 8], (some (8, false))⟩,
   ⟨(some 15), .pick (.t 11) (.c (.p (.bool true))) (.t 14), [8, 11], none⟩,
   ⟨(some 16), .mv (.t 15), [12, 8], none⟩,
   ⟨(some 17), .faddr 4 (.t 1), [13], (some (13, false))⟩,
   ⟨(some 18), .load none (.t 17), [14, 13], (some (13, false))⟩,
   ⟨(some 19), .bin Go.BinOp.gtr .no (.t 18) (.c (.p (.int Go.IntKind.i64 255))), [15, 13], (some (13, false))⟩,
   ⟨(some 20), .pick (.t 16) (.c (.p (.bool true))) (.t 19), [13, 16], none⟩]
def vf42r2 : List VOper :=
  [⟨(some 2), .asg (.c (.p (.bool false))), [], none⟩]
def vf42r3 : List VOper :=
  [⟨(some 21), .faddr 4 (.t 1), [], none⟩,
   ⟨(some 22), .load none (.t 21), [0], none⟩,
   ⟨(some 23), .bin Go.BinOp.neq .no (.t 22) (.c (.p (.int Go.IntKind.i64 6))), [1], none⟩,
   ⟨(some 24), .mv (.t 23), [2], none⟩,
   ⟨(some 25), .faddr 4 (.t 1), [3], (some (3, true))⟩,
   ⟨(some 26), .load none (.t 25), [4, 3], (some (3, true))⟩,
   ⟨(some 27), .bin Go.BinOp.neq .no (.t 26) (.c (.p (.int Go.IntKind.i64 17))), [5, 3], (some (3, true))⟩,
   ⟨(some 28), .pick (.t 24) (.t 27) (.c (.p (.bool false))), [3, 6], none⟩]
def vf42r4 : List VOper :=
  [⟨(some 29), .faddr 5 (.t 1), [], none⟩,
   ⟨(some 30), .load none (.t 29), [0], none⟩,
   ⟨(some 31), .bin Go.BinOp.eql .no (.t 30) (.c (.p (.int Go.IntKind.i64 0))), [1], none⟩,
   ⟨(some 32), .mv (.t 31), [2], none⟩,
   ⟨(some 33), .faddr 6 (.t 1), [3], (some (3, true))⟩,
   ⟨(some 34), .load none (.t 33), [4, 3], (some (3, true))⟩,
   ⟨(some 35), .bin Go.BinOp.eql .no (.t 34) (.c (.p (.int Go.IntKind.i64 0))), [5, 3], (some (3, true))⟩,
   ⟨(some 36), .pick (.t 32) (.t 35) (.c (.p (.bool false))), [3, 6], none⟩,
   ⟨(some 2), .asg (.t 36), [7, 3, 0, 1, 2, 3, 4, 5, 6, 7], none⟩]
def vf42r5 : List VOper :=
  [⟨(some 37), .faddr 5 (.t 1), [], none⟩,
   ⟨(some 38), .load none (.t 37), [0], none⟩,
   ⟨(some 39), .bin Go.BinOp.geq .no (.t 38) (.c (.p (.int Go.IntKind.i64 0))), [1], none⟩,
   ⟨(some 40), .mv (.t 39), [2], none⟩,
   ⟨(some 41), .faddr 5 (.t 1), [3], (some (3, true))⟩,
   ⟨(some 42), .load none (.t 41), [4, 3], (some (3, true))⟩,
   ⟨(some 43), .bin Go.BinOp.leq .no (.t 42) (.c (.p (.int Go.IntKind.i64 65535))), [5, 3], (some (3, true))⟩,
   ⟨(some 44), .pick (.t 40) (.t 43) (.c (.p (.bool false))), [3, 6], none⟩,
   ⟨(some 45), .mv (.t 44), [7, 3], none⟩,
   ⟨(some 46), .faddr 6 (.t 1), [8], (some (8, true))⟩,
   ⟨(some 47), .load none (.t 46), [9, 8], (some (8, true))⟩,
   ⟨(some 48), .bin Go.BinOp.geq .no (.t 47) (.c (.p (.int Go.IntKind.i64 0))), [10, 8], (some (8, true))⟩,
   ⟨(some 49), .pick (.t 45) (.t 48) (.c (.p (.bool false))), [8, 11], none⟩,
   ⟨(some 50), .mv (.t 49), [12, 8], none⟩,
   ⟨(some 51), .faddr 6 (.t 1), [13], (some (13, true))⟩,
   ⟨(some 52), .load none (.t 51), [14, 13], (some (13, true))⟩,
   ⟨(some 53), .bin Go.BinOp.leq .no (.t 52) (.c (.p (.int Go.IntKind.i64 65535))), [15, 13], (some (13, true))⟩,
   ⟨(some 54), .pick (.t 50) (.t 53) (.c (.p (.bool false))), [13, 16], none⟩,
   ⟨(some 2), .asg (.t 54), [17, 13, 0, 1, 2, 3, 4, 5, 6, 7, 8, 9, 10, 11, 12, 13, 14, 15, 16, 17], none⟩]
def vf42 : VFun where
  vars := [0, 7, 8, 9, 12, 13, 14, 17, 18, 19, 25, 26, 27, 33, 34, 35, 41, 42, 43, 46, 47, 48, 51, 52, 53]
  boxes := [1]
  mv := []
  res := [(.t 2)]
  body := (.seq (.region none vf42r0 [1, 7, 8, 9, 12, 13, 14, 17, 18, 19, 25, 26, 27, 33, 34, 35, 41, 42, 43, 46, 47, 48, 51, 52, 53] [1, 7, 8, 9, 12, 13, 14, 17, 18, 19, 25, 26, 27, 33, 34, 35, 41, 42, 43, 46, 47, 48, 51, 52, 53])
 (.seq (.seq (.region none vf42r1 [1, 20, 25, 26, 27, 33, 34, 35, 41, 42, 43, 46, 47, 48, 51, 52, 53] [1, 20, 25, 26, 27, 33, 34, 35, 41, 42, 43, 46, 47, 48, 51, 52, 53])
 (.cond (.t 20) (.seq (.region none vf42r2 [2, 36, 54] [2, 36, 54])
 .ret)
 .skip))
 (.seq (.seq (.region none vf42r3 [1, 28, 33, 34, 35, 41, 42, 43, 46, 47, 48, 51, 52, 53] [1, 28, 33, 34, 35, 41, 42, 43, 46, 47, 48, 51, 52, 53])
 (.cond (.t 28) (.seq (.region none vf42r4 [2, 36, 54] [2, 36, 54])
 .ret)
 .skip))
 (.seq (.region none vf42r5 [2, 36, 54] [2, 36, 54])
 .ret))))

def vf43r0 : List VOper :=
  [⟨(some 5), .box false 20 (.t 2), [], none⟩,
   ⟨(some 6), .asg (.c (.p (.int Go.IntKind.i64 0))), [], none⟩]
def vf43r1 : List VOper :=
  [⟨(some 9), .mv (.t 0), [], none⟩,
   ⟨(some 10), .bin Go.BinOp.eql .ptr (.t 9) (.c .nilp), [0], none⟩]
def vf43r2 : List VOper :=
  [⟨(some 6), .asg (.c (.p (.int Go.IntKind.i64 11))), [], none⟩]
def vf43r3 : List VOper :=
  [⟨(some 12), .mv (.t 0), [], none⟩,
   ⟨(some 13), .mv (.t 1), [], none⟩,
   ⟨(some 14), .call 54 [(.t 12), (.t 13)], [0, 1], none⟩,
   ⟨(some 11), .mv (.t 14), [2], none⟩,
   ⟨(some 15), .ext (.t 11) 0, [3], none⟩,
   ⟨(some 16), .ext (.t 11) 1, [3], none⟩,
   ⟨(some 7), .asg (.t 15), [4, 2, 0, 1, 2, 3, 4], none⟩,
   ⟨(some 8), .asg (.t 16), [5, 6, 0, 1, 2, 3, 4, 5, 6], none⟩]
def vf43r4 : List VOper :=
  [⟨(some 31), .mv (.t 8), [], none⟩,
   ⟨(some 30), .asg (.t 31), [0], none⟩]
def vf43r5 : List VOper :=
  [⟨(some 32), .mv (.t 0), [], none⟩,
   ⟨(some 33), .nilck (.t 32), [0], none⟩,
   ⟨(some 34), .faddr 0 (.t 33), [1], none⟩,
   ⟨(some 35), .load none (.t 34), [2], none⟩,
   ⟨(some 36), .mv (.t 7), [], none⟩,
   ⟨(some 37), .load (some 20) (.t 5), [], none⟩,
   ⟨(some 38), .iaddrS 21 (.t 35) (.t 36), [3, 4, 0, 1, 2, 3, 4, 5], none⟩,
   ⟨(some 39), .faddr 1 (.t 38), [6, 0, 1, 2, 3, 4, 5], none⟩,
   ⟨none, .store 20 (.t 39) (.t 37), [7, 5, 0, 1, 2, 3, 4, 5], none⟩]
def vf43r6 : List VOper :=
  [⟨(some 41), .mv (.t 0), [], none⟩,
   ⟨(some 42), .nilck (.t 41), [0], none⟩,
   ⟨(some 43), .faddr 0 (.t 42), [1], none⟩,
   ⟨(some 44), .load none (.t 43), [2], none⟩,
   ⟨(some 45), .len false (.t 44), [3], none⟩,
   ⟨(some 46), .mv (.t 0), [], none⟩,
   ⟨(some 47), .nilck (.t 46), [5], none⟩,
   ⟨(some 48), .faddr 1 (.t 47), [6], none⟩,
   ⟨(some 49), .load none (.t 48), [7], none⟩,
   ⟨(some 50), .bin Go.BinOp.geq .no (.t 45) (.t 49), [4, 8], none⟩,
   ⟨(some 40), .asg (.t 50), [9], none⟩]
def vf43r7 : List VOper :=
  [⟨(some 6), .asg (.c (.p (.int Go.IntKind.i64 4))), [], none⟩]
def vf43r8 : List VOper :=
  [⟨(some 17), .mv (.t 0), [], none⟩,
   ⟨(some 18), .mv (.t 0), [], none⟩,
   ⟨(some 19), .nilck (.t 18), [1], none⟩,
   ⟨(some 20), .faddr 0 (.t 19), [2], none⟩,
   ⟨(some 21), .load none (.t 20), [3], none⟩,
   ⟨(some 22), .mv (.t 7), [], none⟩,
   ⟨(some 23), .mv (.t 1), [], none⟩,
   ⟨(some 24), .load (some 20) (.t 5), [], none⟩,
   ⟨(some 25), .build [(.p (.int Go.IntKind.u32 0)), (.p (.int Go.IntKind.u32 0)), (.p (.int Go.IntKind.u32 0)), (.p (.int Go.IntKind.u64 0)), (.p (.int Go.IntKind.u64 0)), (.p (.int Go.IntKind.u32 0)), (.p (.int Go.IntKind.u32 0)), (.p (.int Go.IntKind.i64 0)), (.p (.int Go.IntKind.i64 0)), (.p (.int Go.IntKind.i64 0)), (.p (.int Go.IntKind.i64 0)), (.p (.int Go.IntKind.i64 0)), (.p (.int Go.IntKind.i64 0)), (.p (.int Go.IntKind.i64 0)), (.p (.str [])), (.p (.str [])), (.p (.str [])), (.p (.str [])), (.p (.int Go.IntKind.i64 0)), (.p (.int Go.IntKind.i64 0)), (.p .nils)] [(0, 1, (.t 23)), (1, 20, (.t 24))], [6, 7], none⟩,
   ⟨(some 26), .lit 21 [(.int Go.IntKind.u32 0), (.int Go.IntKind.u32 0), (.int Go.IntKind.u32 0), (.int Go.IntKind.u64 0), (.int Go.IntKind.u64 0), (.int Go.IntKind.u32 0), (.int Go.IntKind.u32 0), (.int Go.IntKind.i64 0), (.int Go.IntKind.i64 0), (.int Go.IntKind.i64 0), (.int Go.IntKind.i64 0), (.int Go.IntKind.i64 0), (.int Go.IntKind.i64 0), (.int Go.IntKind.i64 0), (.str []), (.str []), (.str []), (.str []), (.int Go.IntKind.i64 0), (.int Go.IntKind.i64 0), .nils] 1 [(0, (.t 25))], [8], none⟩,
   ⟨(some 27), .call 55 [(.t 21), (.t 22), (.t 26)], [4, 5, 9], none⟩,
   ⟨(some 28), .nilck (.t 17), [0, 0, 1, 2, 3, 4, 5, 6, 7, 8, 9, 10], none⟩,
   ⟨(some 29), .faddr 0 (.t 28), [11, 0, 1, 2, 3, 4, 5, 6, 7, 8, 9, 10], none⟩,
   ⟨none, .store 1 (.t 29) (.t 27), [12, 10, 10, 0, 1, 2, 3, 4, 5, 6, 7, 8, 9, 10], none⟩]
def vf43r9 : List VOper :=
  [⟨(some 6), .asg (.c (.p (.int Go.IntKind.i64 0))), [], none⟩]
def vf43 : VFun where
  vars := [0, 1, 2]
  boxes := [5]
  mv := []
  res := [(.t 6)]
  body := (.seq (.region none vf43r0 [0, 1, 5] [0, 1, 5])
 (.seq (.seq (.region none vf43r1 [0, 1, 5, 10] [0, 1, 5, 10])
 (.cond (.t 10) (.seq (.region none vf43r2 [6] [6])
 .ret)
 .skip))
 (.seq (.region none vf43r3 [0, 1, 5, 7, 8, 15, 16] [0, 1, 5, 7, 8, 15, 16])
 (.seq (.block 0 (.seq (.region none vf43r4 [0, 1, 5, 7, 8, 15, 16, 30, 31] [0, 1, 5, 7, 8, 15, 16, 30, 31])
 (.cond (.t 30) (.region (some ([8], (.one 0 (.one 1 (.one 2 (.one 3 (.one 4 (.one 5 (.one 6 (.one 7 (.one 8 .fin))))))))))) vf43r5 [] [])
 (.seq (.region (some ([10], (.one 0 (.one 1 (.one 2 (.one 3 (.one 4 (.one 5 (.one 6 (.one 7 (.one 8 (.one 9 (.one 10 .fin))))))))))))) vf43r6 [0, 1, 5, 7, 15, 40, 50] [0, 1, 5, 7, 15, 40, 50])
 (.cond (.t 40) (.seq (.region none vf43r7 [6] [6])
 .ret)
 (.region (some ([10, 13], (.one 1 (.one 2 (.one 3 (.one 4 (.one 5 (.one 6 (.one 7 (.one 8 (.one 9 (.alt 0 (.one 10 (.one 11 (.one 12 (.one 13 .fin)))) (.alt 10 (.one 0 (.one 11 (.one 12 (.one 13 .fin)))) .fin))))))))))))) vf43r8 [] []))))))
 (.seq (.region none vf43r9 [6] [6])
 .ret)))))

def vf44r0 : List VOper :=
  [⟨(some 4), .asg (.c (.p (.int Go.IntKind.i64 0))), [], none⟩]
def vf44r1 : List VOper :=
  [⟨(some 6), .mv (.t 0), [], none⟩,
   ⟨(some 7), .len false (.t 6), [0], none⟩,
   ⟨(some 8), .mv (.c (.p (.int Go.IntKind.i64 0))), [], none⟩]
def vf44r2 : List VOper :=
  [⟨(some 9), .bin Go.BinOp.lss .no (.t 8) (.t 7), [], none⟩]
def vf44r3 : List VOper :=
  [⟨(some 10), .mv (.t 8), [], none⟩,
   ⟨(some 5), .asg (.t 10), [0, 0], none⟩]
def vf44r4 : List VOper :=
  [⟨(some 11), .mv (.t 1), [], none⟩,
   ⟨(some 12), .mv (.t 0), [], none⟩,
   ⟨(some 13), .mv (.t 5), [], none⟩,
   ⟨(some 14), .iaddrS 20 (.t 12) (.t 13), [1, 2], none⟩,
   ⟨(some 15), .load (some 20) (.t 14), [3], none⟩,
   ⟨(some 16), .callv (.t 11) [(.t 15)], [0, 4], none⟩]
def vf44r5 : List VOper :=
  [⟨(some 17), .mv (.t 5), [], none⟩,
   ⟨(some 4), .asg (.t 17), [0, 0], none⟩]
def vf44r6 : List VOper :=
  [⟨(some 18), .bin Go.BinOp.add .no (.t 8) (.c (.p (.int Go.IntKind.i64 1))), [], none⟩,
   ⟨(some 8), .mv (.t 18), [0], none⟩]
def vf44r7 : List VOper :=
  [⟨(some 4), .asg (.c (.p (.int Go.IntKind.i64 (-1)))), [], none⟩]
def vf44 : VFun where
  vars := [0, 1]
  boxes := []
  mv := []
  res := [(.t 4)]
  body := (.seq (.region none vf44r0 [0, 1] [0, 1])
 (.seq (.seq (.region none vf44r1 [0, 1, 7, 8, 18] [0, 1, 7, 8, 18])
 (.block 0 (.loop (.seq (.region none vf44r2 [0, 1, 7, 8, 9, 18] [0, 1, 7, 8, 9, 18])
 (.seq (.cond (.t 9) .skip
 (.exit 0))
 (.seq (.block 1 (.seq (.region none vf44r3 [0, 1, 5, 7, 8, 10, 18] [0, 1, 5, 7, 8, 10, 18])
 (.seq (.region none vf44r4 [0, 1, 5, 7, 8, 10, 16, 18] [0, 1, 5, 7, 8, 10, 16, 18])
 (.cond (.t 16) (.seq (.region none vf44r5 [4, 5, 8, 10, 17, 18] [4, 5, 8, 10, 17, 18])
 .ret)
 .skip))))
 (.region none vf44r6 [0, 1, 7, 8, 18] [0, 1, 7, 8, 18])))))))
 (.seq (.region none vf44r7 [4, 5, 8, 10, 17, 18] [4, 5, 8, 10, 17, 18])
 .ret)))

def vf45r0 : List VOper :=
  [⟨(some 2), .box false 20 (.t 0), [], none⟩,
   ⟨(some 3), .asg (.c (.p (.bool false))), [], none⟩]
def vf45r1 : List VOper :=
  [⟨(some 4), .faddr 2 (.t 2), [], none⟩,
   ⟨(some 5), .load (some 7) (.t 4), [0], none⟩,
   ⟨(some 6), .load (some 7) (.t 1), [], none⟩,
   ⟨(some 7), .bin Go.BinOp.eql (.struct [.int, .int, .int, .int, .int, .int, .int]) (.t 5) (.t 6), [1, 2], none⟩,
   ⟨(some 3), .asg (.t 7), [3, 0, 1, 2, 3], none⟩]
def vf45 : VFun where
  vars := [0, 1]
  boxes := [2]
  mv := []
  res := [(.t 3)]
  body := (.seq (.region none vf45r0 [1, 2] [1, 2])
 (.seq (.region none vf45r1 [3, 7] [3, 7])
 .ret))

def vf46r0 : List VOper :=
  [⟨(some 4), .alloc false [(.int Go.IntKind.u32 0), (.int Go.IntKind.u32 0), (.int Go.IntKind.u64 0), (.int Go.IntKind.u64 0), (.int Go.IntKind.u32 0), (.int Go.IntKind.u32 0), (.int Go.IntKind.i64 0), (.int Go.IntKind.i64 0), (.int Go.IntKind.i64 0), (.int Go.IntKind.i64 0), (.int Go.IntKind.i64 0), (.int Go.IntKind.i64 0), (.int Go.IntKind.i64 0), (.str []), (.str []), (.str []), (.str []), (.int Go.IntKind.i64 0), (.int Go.IntKind.i64 0), .nils], [], none⟩,
   ⟨(some 5), .asg (.c (.p (.bool false))), [], none⟩]
def vf46r1 : List VOper :=
  [⟨(some 9), .mv (.t 0), [], none⟩,
   ⟨(some 10), .bin Go.BinOp.neq .ptr (.t 9) (.c .nilp), [0], none⟩]
def vf46r2 : List VOper :=
  [⟨(some 12), .mv (.t 0), [], none⟩,
   ⟨(some 13), .mv (.t 1), [], none⟩,
   ⟨(some 14), .call 54 [(.t 12), (.t 13)], [0, 1], none⟩,
   ⟨(some 11), .mv (.t 14), [2], none⟩,
   ⟨(some 15), .ext (.t 11) 0, [3], none⟩,
   ⟨(some 16), .ext (.t 11) 1, [3], none⟩,
   ⟨(some 6), .asg (.t 15), [4, 2, 0, 1, 2, 3, 4], none⟩,
   ⟨(some 7), .asg (.t 16), [5, 6, 0, 1, 2, 3, 4, 5, 6], none⟩]
def vf46r3 : List VOper :=
  [⟨(some 17), .mv (.t 7), [], none⟩]
def vf46r4 : List VOper :=
  [⟨(some 18), .mv (.t 0), [], none⟩,
   ⟨(some 19), .nilck (.t 18), [0], none⟩,
   ⟨(some 20), .faddr 0 (.t 19), [1], none⟩,
   ⟨(some 21), .load none (.t 20), [2], none⟩,
   ⟨(some 22), .mv (.t 6), [], none⟩,
   ⟨(some 23), .iaddrS 21 (.t 21) (.t 22), [3, 4], none⟩,
   ⟨(some 24), .faddr 1 (.t 23), [5], none⟩,
   ⟨(some 25), .load (some 20) (.t 24), [6], none⟩,
   ⟨none, .store 20 (.t 4) (.t 25), [7, 0, 1, 2, 3, 4, 5, 6, 7], none⟩,
   ⟨(some 5), .asg (.c (.p (.bool true))), [8, 0, 1, 2, 3, 4, 5, 6, 7, 8], none⟩]
def vf46r5 : List VOper :=
  [⟨(some 8), .alloc false [(.int Go.IntKind.u32 0), (.int Go.IntKind.u32 0), (.int Go.IntKind.u64 0), (.int Go.IntKind.u64 0), (.int Go.IntKind.u32 0), (.int Go.IntKind.u32 0), (.int Go.IntKind.i64 0), (.int Go.IntKind.i64 0), (.int Go.IntKind.i64 0), (.int Go.IntKind.i64 0), (.int Go.IntKind.i64 0), (.int Go.IntKind.i64 0), (.int Go.IntKind.i64 0), (.str []), (.str []), (.str []), (.str []), (.int Go.IntKind.i64 0), (.int Go.IntKind.i64 0), .nils], [], none⟩]
def vf46r6 : List VOper :=
  [⟨(some 26), .load (some 20) (.t 8), [], none⟩,
   ⟨none, .store 20 (.t 4) (.t 26), [0, 0], none⟩,
   ⟨(some 5), .asg (.c (.p (.bool false))), [1, 0, 1], none⟩]
def vf46 : VFun where
  vars := [0, 1]
  boxes := [4, 8]
  mv := []
  res := [(.cell 4 (some 20)), (.t 5)]
  body := (.seq (.region none vf46r0 [0, 1, 4] [0, 1, 4])
 (.seq (.seq (.region none vf46r1 [0, 1, 4, 10] [0, 1, 4, 10])
 (.cond (.t 10) (.seq (.region none vf46r2 [0, 4, 6, 7, 15, 16] [0, 4, 6, 7, 15, 16])
 (.seq (.region none vf46r3 [0, 4, 6, 7, 15, 16, 17] [0, 4, 6, 7, 15, 16, 17])
 (.cond (.t 17) (.seq (.region none vf46r4 [4, 5] [4, 5])
 .ret)
 .skip)))
 .skip))
 (.seq (.region none vf46r5 [4, 8] [4, 8])
 (.seq (.region none vf46r6 [4, 5] [4, 5])
 .ret))))

def vf47r0 : List VOper :=
  [⟨(some 4), .asg (.c (.p .nils)), [], none⟩]
def vf47r1 : List VOper :=
  [⟨(some 5), .asg (.c (.p .nils)), [], none⟩]
def vf47r2 : List VOper :=
  [⟨(some 6), .asg (.c (.p .nils)), [], none⟩]
def vf47r3 : List VOper :=
  [⟨(some 9), .mv (.t 0), [], none⟩,
   ⟨(some 10), .call 53 [(.t 9)], [0], none⟩,
   ⟨(some 11), .mv (.c (.p (.int Go.IntKind.i64 0))), [], none⟩]
def vf47r4 : List VOper :=
  [⟨(some 12), .bin Go.BinOp.lss .no (.t 11) (.t 10), [], none⟩]
def vf47r5 : List VOper :=
  [⟨(some 13), .mv (.t 11), [], none⟩,
   ⟨(some 7), .asg (.t 13), [0, 0], none⟩]
def vf47r6 : List VOper :=
  [⟨(some 14), .mv (.t 0), [], none⟩,
   ⟨(some 15), .nilck (.t 14), [0], none⟩,
   ⟨(some 16), .faddr 0 (.t 15), [1], none⟩,
   ⟨(some 17), .load none (.t 16), [2], none⟩,
   ⟨(some 18), .mv (.t 7), [], none⟩,
   ⟨(some 19), .iaddrS 21 (.t 17) (.t 18), [3, 4], none⟩,
   ⟨(some 20), .load (some 21) (.t 19), [5], none⟩,
   ⟨(some 8), .alloc false [(.int Go.IntKind.u32 0), (.int Go.IntKind.u32 0), (.int Go.IntKind.u32 0), (.int Go.IntKind.u64 0), (.int Go.IntKind.u64 0), (.int Go.IntKind.u32 0), (.int Go.IntKind.u32 0), (.int Go.IntKind.i64 0), (.int Go.IntKind.i64 0), (.int Go.IntKind.i64 0), (.int Go.IntKind.i64 0), (.int Go.IntKind.i64 0), (.int Go.IntKind.i64 0), (.int Go.IntKind.i64 0), (.str []), (.str []), (.str []), (.str []), (.int Go.IntKind.i64 0), (.int Go.IntKind.i64 0), .nils], [], none⟩,
   ⟨none, .store 21 (.t 8) (.t 20), [7, 6, 0, 1, 2, 3, 4, 5, 6, 7], none⟩]
def vf47r7 : List VOper :=
  [⟨(some 21), .mv (.t 1), [], none⟩,
   ⟨(some 22), .faddr 0 (.t 8), [], none⟩,
   ⟨(some 23), .load none (.t 22), [1], none⟩,
   ⟨(some 24), .faddr 1 (.t 8), [], none⟩,
   ⟨(some 25), .load (some 20) (.t 24), [3], none⟩,
   ⟨(some 26), .callv (.t 21) [(.t 23), (.t 25)], [0, 2, 4], none⟩]
def vf47r8 : List VOper :=
  [⟨(some 27), .mv (.t 5), [], none⟩,
   ⟨(some 28), .faddr 1 (.t 8), [], none⟩,
   ⟨(some 29), .load (some 20) (.t 28), [1], none⟩,
   ⟨(some 30), .lit 20 [(.int Go.IntKind.u32 0), (.int Go.IntKind.u32 0), (.int Go.IntKind.u64 0), (.int Go.IntKind.u64 0), (.int Go.IntKind.u32 0), (.int Go.IntKind.u32 0), (.int Go.IntKind.i64 0), (.int Go.IntKind.i64 0), (.int Go.IntKind.i64 0), (.int Go.IntKind.i64 0), (.int Go.IntKind.i64 0), (.int Go.IntKind.i64 0), (.int Go.IntKind.i64 0), (.str []), (.str []), (.str []), (.str []), (.int Go.IntKind.i64 0), (.int Go.IntKind.i64 0), .nils] 1 [(0, (.t 29))], [2], none⟩,
   ⟨(some 31), .append false 20 192 (.t 27) (.t 30), [0, 3], none⟩,
   ⟨(some 5), .asg (.t 31), [4, 4, 0, 1, 2, 3, 4], none⟩]
def vf47r9 : List VOper :=
  [⟨(some 32), .mv (.t 6), [], none⟩,
   ⟨(some 33), .load (some 21) (.t 8), [], none⟩,
   ⟨(some 34), .lit 21 [(.int Go.IntKind.u32 0), (.int Go.IntKind.u32 0), (.int Go.IntKind.u32 0), (.int Go.IntKind.u64 0), (.int Go.IntKind.u64 0), (.int Go.IntKind.u32 0), (.int Go.IntKind.u32 0), (.int Go.IntKind.i64 0), (.int Go.IntKind.i64 0), (.int Go.IntKind.i64 0), (.int Go.IntKind.i64 0), (.int Go.IntKind.i64 0), (.int Go.IntKind.i64 0), (.int Go.IntKind.i64 0), (.str []), (.str []), (.str []), (.str []), (.int Go.IntKind.i64 0), (.int Go.IntKind.i64 0), .nils] 1 [(0, (.t 33))], [1], none⟩,
   ⟨(some 35), .append false 21 200 (.t 32) (.t 34), [0, 2], none⟩,
   ⟨(some 6), .asg (.t 35), [3, 3, 0, 1, 2, 3], none⟩]
def vf47r10 : List VOper :=
  [⟨(some 36), .bin Go.BinOp.add .no (.t 11) (.c (.p (.int Go.IntKind.i64 1))), [], none⟩,
   ⟨(some 11), .mv (.t 36), [0], none⟩]
def vf47r11 : List VOper :=
  [⟨(some 37), .mv (.t 0), [], none⟩,
   ⟨(some 38), .bin Go.BinOp.neq .ptr (.t 37) (.c .nilp), [0], none⟩]
def vf47r12 : List VOper :=
  [⟨(some 39), .mv (.t 0), [], none⟩,
   ⟨(some 40), .mv (.t 6), [], none⟩,
   ⟨(some 41), .nilck (.t 39), [0, 0, 1], none⟩,
   ⟨(some 42), .faddr 0 (.t 41), [2, 0, 1], none⟩,
   ⟨none, .store 1 (.t 42) (.t 40), [3, 1, 0, 1], none⟩]
def vf47r13 : List VOper :=
  [⟨(some 43), .mv (.t 5), [], none⟩,
   ⟨(some 4), .asg (.t 43), [0, 0], none⟩]
def vf47 : VFun where
  vars := [0, 1]
  boxes := [8]
  mv := []
  res := [(.t 4)]
  body := (.seq (.region none vf47r0 [0, 1] [0, 1])
 (.seq (.region none vf47r1 [0, 1, 5, 31] [0, 1, 5, 31])
 (.seq (.region none vf47r2 [0, 1, 5, 6, 31, 35] [0, 1, 5, 6, 31, 35])
 (.seq (.seq (.region none vf47r3 [0, 1, 5, 6, 10, 11, 31, 35, 36] [0, 1, 5, 6, 10, 11, 31, 35, 36])
 (.block 0 (.loop (.seq (.region none vf47r4 [0, 1, 5, 6, 10, 11, 12, 31, 35, 36] [0, 1, 5, 6, 10, 11, 12, 31, 35, 36])
 (.seq (.cond (.t 12) .skip
 (.exit 0))
 (.seq (.block 1 (.seq (.region none vf47r5 [0, 1, 5, 6, 7, 10, 11, 13, 31, 35, 36] [0, 1, 5, 6, 7, 10, 11, 13, 31, 35, 36])
 (.seq (.region none vf47r6 [0, 1, 5, 6, 8, 10, 11, 31, 35, 36] [0, 1, 5, 6, 8, 10, 11, 31, 35, 36])
 (.seq (.region none vf47r7 [0, 1, 5, 6, 8, 10, 11, 26, 31, 35, 36] [0, 1, 5, 6, 8, 10, 11, 26, 31, 35, 36])
 (.cond (.t 26) (.region none vf47r8 [0, 1, 5, 6, 10, 11, 31, 35, 36] [0, 1, 5, 6, 10, 11, 31, 35, 36])
 (.region none vf47r9 [0, 1, 5, 6, 10, 11, 31, 35, 36] [0, 1, 5, 6, 10, 11, 31, 35, 36]))))))
 (.region none vf47r10 [0, 1, 5, 6, 10, 11, 31, 35, 36] [0, 1, 5, 6, 10, 11, 31, 35, 36])))))))
 (.seq (.seq (.region none vf47r11 [0, 5, 6, 31, 35, 38] [0, 5, 6, 31, 35, 38])
 (.cond (.t 38) (.region none vf47r12 [5, 31] [5, 31])
 .skip))
 (.seq (.region none vf47r13 [4, 5, 31, 43] [4, 5, 31, 43])
 .ret))))))

def vf48r0 : List VOper :=
  [⟨(some 3), .box true 20 (.t 1), [], none⟩,
   ⟨(some 4), .asg (.c (.p (.bool false))), [], none⟩]
def vf48r1 : List VOper :=
  [⟨(some 4), .asg (.c (.p (.bool true))), [], none⟩]
def vf48 : VFun where
  vars := [1]
  boxes := []
  mv := []
  res := [(.t 4)]
  body := (.seq (.region none vf48r0 [] [])
 (.seq (.region none vf48r1 [4] [4])
 .ret))

def vf49r0 : List VOper :=
  [⟨(some 2), .asg (.c (.p .nils)), [], none⟩]
def vf49r1 : List VOper :=
  [⟨(some 3), .mv (.t 0), [], none⟩,
   ⟨(some 4), .bin Go.BinOp.eql .slice (.t 3) (.c (.p .nils)), [0], none⟩]
def vf49r2 : List VOper :=
  [⟨(some 2), .asg (.c (.p .nils)), [], none⟩]
def vf49r3 : List VOper :=
  [⟨(some 5), .lit 3 [(.int Go.IntKind.i64 0), (.int Go.IntKind.i64 0), (.int Go.IntKind.i64 0)] 0 [], [], none⟩,
   ⟨(some 6), .mv (.t 0), [], none⟩,
   ⟨(some 7), .append false 3 24 (.t 5) (.t 6), [0, 1], none⟩,
   ⟨(some 2), .asg (.t 7), [2, 2, 0, 1, 2], none⟩]
def vf49 : VFun where
  vars := [0]
  boxes := []
  mv := []
  res := [(.t 2)]
  body := (.seq (.region none vf49r0 [0] [0])
 (.seq (.seq (.region none vf49r1 [0, 4] [0, 4])
 (.cond (.t 4) (.seq (.region none vf49r2 [2, 7] [2, 7])
 .ret)
 .skip))
 (.seq (.region none vf49r3 [2, 7] [2, 7])
 .ret)))

def vf50r0 : List VOper :=
  [⟨(some 4), .asg (.c (.p (.bool false))), [], none⟩]
def vf50r1 : List VOper :=
  [⟨(some 6), .mv (.t 0), [], none⟩,
   ⟨(some 7), .len false (.t 6), [0], none⟩,
   ⟨(some 8), .mv (.t 1), [], none⟩,
   ⟨(some 9), .len false (.t 8), [2], none⟩,
   ⟨(some 10), .bin Go.BinOp.neq .no (.t 7) (.t 9), [1, 3], none⟩]
def vf50r2 : List VOper :=
  [⟨(some 4), .asg (.c (.p (.bool false))), [], none⟩]
def vf50r3 : List VOper :=
  [⟨(some 11), .mv (.t 0), [], none⟩,
   ⟨(some 12), .len false (.t 11), [0], none⟩,
   ⟨(some 13), .mv (.c (.p (.int Go.IntKind.i64 0))), [], none⟩]
def vf50r4 : List VOper :=
  [⟨(some 14), .bin Go.BinOp.lss .no (.t 13) (.t 12), [], none⟩]
def vf50r5 : List VOper :=
  [⟨(some 15), .mv (.t 13), [], none⟩,
   ⟨(some 5), .asg (.t 15), [0, 0], none⟩]
def vf50r6 : List VOper :=
  [⟨(some 16), .mv (.t 0), [], none⟩,
   ⟨(some 17), .mv (.t 5), [], none⟩,
   ⟨(some 18), .iaddrS 3 (.t 16) (.t 17), [0, 1], none⟩,
   ⟨(some 19), .load (some 3) (.t 18), [2], none⟩,
   ⟨(some 20), .mv (.t 1), [], none⟩,
   ⟨(some 21), .mv (.t 5), [], none⟩,
   ⟨(some 22), .iaddrS 3 (.t 20) (.t 21), [4, 5], none⟩,
   ⟨(some 23), .load (some 3) (.t 22), [6], none⟩,
   ⟨(some 24), .bin Go.BinOp.neq (.struct [.int, .int, .int]) (.t 19) (.t 23), [3, 7], none⟩]
def vf50r7 : List VOper :=
  [⟨(some 4), .asg (.c (.p (.bool false))), [], none⟩]
def vf50r8 : List VOper :=
  [⟨(some 25), .bin Go.BinOp.add .no (.t 13) (.c (.p (.int Go.IntKind.i64 1))), [], none⟩,
   ⟨(some 13), .mv (.t 25), [0], none⟩]
def vf50r9 : List VOper :=
  [⟨(some 4), .asg (.c (.p (.bool true))), [], none⟩]
def vf50 : VFun where
  vars := [0, 1]
  boxes := []
  mv := []
  res := [(.t 4)]
  body := (.seq (.region none vf50r0 [0, 1] [0, 1])
 (.seq (.seq (.region none vf50r1 [0, 1, 10] [0, 1, 10])
 (.cond (.t 10) (.seq (.region none vf50r2 [4] [4])
 .ret)
 .skip))
 (.seq (.seq (.region none vf50r3 [0, 1, 12, 13, 25] [0, 1, 12, 13, 25])
 (.block 0 (.loop (.seq (.region none vf50r4 [0, 1, 12, 13, 14, 25] [0, 1, 12, 13, 14, 25])
 (.seq (.cond (.t 14) .skip
 (.exit 0))
 (.seq (.block 1 (.seq (.region none vf50r5 [0, 1, 5, 12, 13, 15, 25] [0, 1, 5, 12, 13, 15, 25])
 (.seq (.region (some ([], (.one 0 (.one 1 (.one 2 (.one 3 (.one 4 (.one 5 (.one 6 (.one 7 (.one 8 .fin))))))))))) vf50r6 [0, 1, 12, 13, 24, 25] [0, 1, 12, 13, 24, 25])
 (.cond (.t 24) (.seq (.region none vf50r7 [4] [4])
 .ret)
 .skip))))
 (.region none vf50r8 [0, 1, 12, 13, 25] [0, 1, 12, 13, 25])))))))
 (.seq (.region none vf50r9 [4] [4])
 .ret))))

def vf51r0 : List VOper :=
  [⟨(some 4), .asg (.c (.p (.bool false))), [], none⟩]
def vf51r1 : List VOper :=
  [⟨(some 6), .mv (.t 0), [], none⟩,
   ⟨(some 7), .len false (.t 6), [0], none⟩,
   ⟨(some 8), .mv (.t 1), [], none⟩,
   ⟨(some 9), .len false (.t 8), [2], none⟩,
   ⟨(some 10), .bin Go.BinOp.neq .no (.t 7) (.t 9), [1, 3], none⟩]
def vf51r2 : List VOper :=
  [⟨(some 4), .asg (.c (.p (.bool false))), [], none⟩]
def vf51r3 : List VOper :=
  [⟨(some 11), .mv (.t 0), [], none⟩,
   ⟨(some 12), .len false (.t 11), [0], none⟩,
   ⟨(some 13), .mv (.c (.p (.int Go.IntKind.i64 0))), [], none⟩]
def vf51r4 : List VOper :=
  [⟨(some 14), .bin Go.BinOp.lss .no (.t 13) (.t 12), [], none⟩]
def vf51r5 : List VOper :=
  [⟨(some 15), .mv (.t 13), [], none⟩,
   ⟨(some 5), .asg (.t 15), [0, 0], none⟩]
def vf51r6 : List VOper :=
  [⟨(some 16), .mv (.t 0), [], none⟩,
   ⟨(some 17), .mv (.t 5), [], none⟩,
   ⟨(some 18), .iaddrS 3 (.t 16) (.t 17), [0, 1], none⟩,
   ⟨(some 19), .load (some 3) (.t 18), [2], none⟩,
   ⟨(some 20), .mv (.t 1), [], none⟩,
   ⟨(some 21), .mv (.t 5), [], none⟩,
   ⟨(some 22), .iaddrS 3 (.t 20) (.t 21), [4, 5], none⟩,
   ⟨(some 23), .load (some 3) (.t 22), [6], none⟩,
   ⟨(some 24), .bin Go.BinOp.neq (.struct [.int, .int, .int]) (.t 19) (.t 23), [3, 7], none⟩]
def vf51r7 : List VOper :=
  [⟨(some 4), .asg (.c (.p (.bool false))), [], none⟩]
def vf51r8 : List VOper :=
  [⟨(some 25), .bin Go.BinOp.add .no (.t 13) (.c (.p (.int Go.IntKind.i64 1))), [], none⟩,
   ⟨(some 13), .mv (.t 25), [0], none⟩]
def vf51r9 : List VOper :=
  [⟨(some 4), .asg (.c (.p (.bool true))), [], none⟩]
def vf51 : VFun where
  vars := [0, 1]
  boxes := []
  mv := []
  res := [(.t 4)]
  body := (.seq (.region none vf51r0 [0, 1] [0, 1])
 (.seq (.seq (.region none vf51r1 [0, 1, 10] [0, 1, 10])
 (.cond (.t 10) (.seq (.region none vf51r2 [4] [4])
 .ret)
 .skip))
 (.seq (.seq (.region none vf51r3 [0, 1, 12, 13, 25] [0, 1, 12, 13, 25])
 (.block 0 (.loop (.seq (.region none vf51r4 [0, 1, 12, 13, 14, 25] [0, 1, 12, 13, 14, 25])
 (.seq (.cond (.t 14) .skip
 (.exit 0))
 (.seq (.block 1 (.seq (.region none vf51r5 [0, 1, 5, 12, 13, 15, 25] [0, 1, 5, 12, 13, 15, 25])
 (.seq (.region (some ([], (.one 0 (.one 1 (.one 2 (.one 3 (.one 4 (.one 5 (.one 6 (.one 7 (.one 8 .fin))))))))))) vf51r6 [0, 1, 12, 13, 24, 25] [0, 1, 12, 13, 24, 25])
 (.cond (.t 24) (.seq (.region none vf51r7 [4] [4])
 .ret)
 .skip))))
 (.region none vf51r8 [0, 1, 12, 13, 25] [0, 1, 12, 13, 25])))))))
 (.seq (.region none vf51r9 [4] [4])
 .ret))))

def vf52r0 : List VOper :=
  [⟨(some 1), .box false 7 (.t 0), [], none⟩,
   ⟨(some 2), .asg (.c (.p (.bool false))), [], none⟩]
def vf52r1 : List VOper :=
  [⟨(some 4), .faddr 0 (.t 1), [], none⟩,
   ⟨(some 5), .load none (.t 4), [0], none⟩,
   ⟨(some 6), .bin Go.BinOp.geq .no (.t 5) (.c (.p (.int Go.IntKind.u64 281474976710656))), [1], none⟩,
   ⟨(some 7), .mv (.t 6), [2], none⟩,
   ⟨(some 8), .faddr 1 (.t 1), [3], (some (3, false))⟩,
   ⟨(some 9), .load none (.t 8), [4, 3], (some (3, false))⟩,
   ⟨(some 10), .bin Go.BinOp.geq .no (.t 9) (.c (.p (.int Go.IntKind.u64 281474976710656))), [5, 3], (some (3, false))⟩,
   ⟨(some 11), .pick (.t 7) (.c (.p (.bool true))) (.t 10), [3, 6], none⟩,
   ⟨(some 12), .mv (.t 11), [7, 3], none⟩,
   ⟨(some 13), .faddr 4 (.t 1), [8], (some (8, false))⟩,
   ⟨(some 14), .load none (.t 13), [9, 8], (some (8, false))⟩,
   ⟨(some 15), .bin Go.BinOp.lss .no (.t 14) (.c (.p (.int Go.IntKind.i64 0))), [10, 8], (some (8, false))⟩,
   ⟨(some 16), .pick (.t 12) (.c (.p (.bool true))) (.t 15), [8, 11], none⟩,
   ⟨(some 17), .mv (.t 16), [12, 8], none⟩,
   ⟨(some 18), .faddr 4 (.t 1), [13], (some (13, false))⟩,
   ⟨(some 19), .load none (.t 18), [14, 13], (some (13, false))⟩,
   ⟨(some 20), .bin Go.BinOp.geq .no (.t 19) (.c (.p (.int Go.IntKind.i64 256))), [15, 13], (some (13, false))⟩,
   ⟨(some 21), .pick (.t 17) (.c (.p (.bool true))) (.t 20), [13, 16], none⟩]
def vf52r2 : List VOper :=
  [⟨(some 2), .asg (.c (.p (.bool false))), [], none⟩]
def vf52r3 : List VOper :=
  [⟨(some 3), .asg (.c (.p (.int Go.IntKind.i64 0))), [], none⟩]
def vf52r4 : List VOper :=
  [⟨(some 22), .faddr 4 (.t 1), [], none⟩,
   ⟨(some 23), .load none (.t 22), [0], none⟩,
   ⟨(some 24), .bin Go.BinOp.eql .no (.t 23) (.c (.p (.int Go.IntKind.i64 6))), [1], none⟩,
   ⟨(some 25), .mv (.t 24), [2], none⟩,
   ⟨(some 26), .faddr 4 (.t 1), [3], (some (3, false))⟩,
   ⟨(some 27), .load none (.t 26), [4, 3], (some (3, false))⟩,
   ⟨(some 28), .bin Go.BinOp.eql .no (.t 27) (.c (.p (.int Go.IntKind.i64 17))), [5, 3], (some (3, false))⟩,
   ⟨(some 29), .pick (.t 25) (.c (.p (.bool true))) (.t 28), [3, 6], none⟩]
def vf52r5 : List VOper :=
  [⟨(some 3), .asg (.c (.p (.int Go.IntKind.i64 65535))), [], none⟩]
def vf52r6 : List VOper :=
  [⟨(some 30), .faddr 5 (.t 1), [], none⟩,
   ⟨(some 31), .load none (.t 30), [0], none⟩,
   ⟨(some 32), .bin Go.BinOp.geq .no (.t 31) (.c (.p (.int Go.IntKind.i64 0))), [1], none⟩,
   ⟨(some 33), .mv (.t 32), [2], none⟩,
   ⟨(some 34), .faddr 5 (.t 1), [3], (some (3, true))⟩,
   ⟨(some 35), .load none (.t 34), [4, 3], (some (3, true))⟩,
   ⟨(some 36), .mv (.t 3), [3], (some (3, true))⟩,
   ⟨(some 37), .bin Go.BinOp.leq .no (.t 35) (.t 36), [5, 6, 3], (some (3, true))⟩,
   ⟨(some 38), .pick (.t 33) (.t 37) (.c (.p (.bool false))), [3, 7], none⟩,
   ⟨(some 39), .mv (.t 38), [8, 3], none⟩,
   ⟨(some 40), .faddr 6 (.t 1), [9], (some (9, true))⟩,
   ⟨(some 41), .load none (.t 40), [10, 9], (some (9, true))⟩,
   ⟨(some 42), .bin Go.BinOp.geq .no (.t 41) (.c (.p (.int Go.IntKind.i64 0))), [11, 9], (some (9, true))⟩,
   ⟨(some 43), .pick (.t 39) (.t 42) (.c (.p (.bool false))), [9, 12], none⟩,
   ⟨(some 44), .mv (.t 43), [13, 9], none⟩,
   ⟨(some 45), .faddr 6 (.t 1), [14], (some (14, true))⟩,
   ⟨(some 46), .load none (.t 45), [15, 14], (some (14, true))⟩,
   ⟨(some 47), .mv (.t 3), [14], (some (14, true))⟩,
   ⟨(some 48), .bin Go.BinOp.leq .no (.t 46) (.t 47), [16, 17, 14], (some (14, true))⟩,
   ⟨(some 49), .pick (.t 44) (.t 48) (.c (.p (.bool false))), [14, 18], none⟩,
   ⟨(some 2), .asg (.t 49), [19, 14, 0, 1, 2, 3, 4, 5, 6, 7, 8, 9, 10, 11, 12, 13, 14, 15, 16, 17, 18, 19], none⟩]
def vf52 : VFun where
  vars := [0, 8, 9, 10, 13, 14, 15, 18, 19, 20, 26, 27, 28, 34, 35, 36, 37, 40, 41, 42, 45, 46, 47, 48]
  boxes := [1]
  mv := []
  res := [(.t 2)]
  body := (.seq (.region none vf52r0 [1, 3, 8, 9, 10, 13, 14, 15, 18, 19, 20, 26, 27, 28, 34, 35, 36, 37, 40, 41, 42, 45, 46, 47, 48] [1, 3, 8, 9, 10, 13, 14, 15, 18, 19, 20, 26, 27, 28, 34, 35, 36, 37, 40, 41, 42, 45, 46, 47, 48])
 (.seq (.seq (.region none vf52r1 [1, 3, 21, 26, 27, 28, 34, 35, 36, 37, 40, 41, 42, 45, 46, 47, 48] [1, 3, 21, 26, 27, 28, 34, 35, 36, 37, 40, 41, 42, 45, 46, 47, 48])
 (.cond (.t 21) (.seq (.region none vf52r2 [2, 49] [2, 49])
 .ret)
 .skip))
 (.seq (.region none vf52r3 [1, 3, 26, 27, 28, 34, 35, 36, 37, 40, 41, 42, 45, 46, 47, 48] [1, 3, 26, 27, 28, 34, 35, 36, 37, 40, 41, 42, 45, 46, 47, 48])
 (.seq (.seq (.region none vf52r4 [1, 3, 29, 34, 35, 36, 37, 40, 41, 42, 45, 46, 47, 48] [1, 3, 29, 34, 35, 36, 37, 40, 41, 42, 45, 46, 47, 48])
 (.cond (.t 29) (.region none vf52r5 [1, 3, 34, 35, 36, 37, 40, 41, 42, 45, 46, 47, 48] [1, 3, 34, 35, 36, 37, 40, 41, 42, 45, 46, 47, 48])
 .skip))
 (.seq (.region none vf52r6 [2, 49] [2, 49])
 .ret)))))

def vf53r0 : List VOper :=
  [⟨(some 2), .asg (.c (.p (.int Go.IntKind.i64 0))), [], none⟩]
def vf53r1 : List VOper :=
  [⟨(some 3), .mv (.t 0), [], none⟩,
   ⟨(some 4), .bin Go.BinOp.eql .ptr (.t 3) (.c .nilp), [0], none⟩]
def vf53r2 : List VOper :=
  [⟨(some 2), .asg (.c (.p (.int Go.IntKind.i64 0))), [], none⟩]
def vf53r3 : List VOper :=
  [⟨(some 5), .mv (.t 0), [], none⟩,
   ⟨(some 6), .nilck (.t 5), [0], none⟩,
   ⟨(some 7), .faddr 0 (.t 6), [1], none⟩,
   ⟨(some 8), .load none (.t 7), [2], none⟩,
   ⟨(some 9), .len false (.t 8), [3], none⟩,
   ⟨(some 2), .asg (.t 9), [4, 0, 1, 2, 3, 4], none⟩]
def vf53 : VFun where
  vars := [0]
  boxes := []
  mv := []
  res := [(.t 2)]
  body := (.seq (.region none vf53r0 [0] [0])
 (.seq (.seq (.region none vf53r1 [0, 4] [0, 4])
 (.cond (.t 4) (.seq (.region none vf53r2 [2, 9] [2, 9])
 .ret)
 .skip))
 (.seq (.region none vf53r3 [2, 9] [2, 9])
 .ret)))

def vf54r0 : List VOper :=
  [⟨(some 4), .asg (.c (.p (.int Go.IntKind.i64 0))), [], none⟩,
   ⟨(some 5), .asg (.c (.p (.bool false))), [0], none⟩]
def vf54r1 : List VOper :=
  [⟨(some 9), .mv (.t 0), [], none⟩,
   ⟨(some 10), .nilck (.t 9), [0], none⟩,
   ⟨(some 11), .faddr 0 (.t 10), [1], none⟩,
   ⟨(some 12), .load none (.t 11), [2], none⟩,
   ⟨(some 13), .len false (.t 12), [3], none⟩,
   ⟨(some 6), .asg (.c (.p (.int Go.IntKind.i64 0))), [], none⟩,
   ⟨(some 7), .asg (.t 13), [4, 5, 0, 1, 2, 3, 4, 5], none⟩]
def vf54r2 : List VOper :=
  [⟨(some 14), .mv (.t 6), [], none⟩,
   ⟨(some 15), .mv (.t 7), [], none⟩,
   ⟨(some 16), .bin Go.BinOp.lss .no (.t 14) (.t 15), [0, 1], none⟩]
def vf54r3 : List VOper :=
  [⟨(some 17), .mv (.t 6), [], none⟩,
   ⟨(some 18), .mv (.t 7), [], none⟩,
   ⟨(some 19), .mv (.t 6), [], none⟩,
   ⟨(some 20), .bin Go.BinOp.sub .no (.t 18) (.t 19), [1, 2], none⟩,
   ⟨(some 21), .bin Go.BinOp.quo .no (.t 20) (.c (.p (.int Go.IntKind.i64 2))), [3], none⟩,
   ⟨(some 22), .bin Go.BinOp.add .no (.t 17) (.t 21), [0, 4], none⟩,
   ⟨(some 8), .asg (.t 22), [5, 0, 1, 2, 3, 4, 5], none⟩]
def vf54r4 : List VOper :=
  [⟨(some 23), .mv (.t 0), [], none⟩,
   ⟨(some 24), .nilck (.t 23), [0], none⟩,
   ⟨(some 25), .faddr 0 (.t 24), [1], none⟩,
   ⟨(some 26), .load none (.t 25), [2], none⟩,
   ⟨(some 27), .mv (.t 8), [], none⟩,
   ⟨(some 28), .iaddrS 21 (.t 26) (.t 27), [3, 4], none⟩,
   ⟨(some 29), .faddr 0 (.t 28), [5], none⟩,
   ⟨(some 30), .load none (.t 29), [6], none⟩,
   ⟨(some 31), .mv (.t 1), [], none⟩,
   ⟨(some 32), .bin Go.BinOp.lss .no (.t 30) (.t 31), [7, 8], none⟩]
def vf54r5 : List VOper :=
  [⟨(some 33), .mv (.t 8), [], none⟩,
   ⟨(some 34), .bin Go.BinOp.add .no (.t 33) (.c (.p (.int Go.IntKind.i64 1))), [0], none⟩,
   ⟨(some 6), .asg (.t 34), [1, 0, 1], none⟩]
def vf54r6 : List VOper :=
  [⟨(some 35), .mv (.t 8), [], none⟩,
   ⟨(some 7), .asg (.t 35), [0, 0], none⟩]
def vf54r7 : List VOper :=
  [⟨(some 36), .mv (.t 6), [], none⟩,
   ⟨(some 37), .mv (.t 6), [], none⟩,
   ⟨(some 38), .mv (.t 0), [], none⟩,
   ⟨(some 39), .nilck (.t 38), [2], none⟩,
   ⟨(some 40), .faddr 0 (.t 39), [3], none⟩,
   ⟨(some 41), .load none (.t 40), [4], none⟩,
   ⟨(some 42), .len false (.t 41), [5], none⟩,
   ⟨(some 43), .bin Go.BinOp.lss .no (.t 37) (.t 42), [1, 6], none⟩,
   ⟨(some 44), .mv (.t 43), [7], none⟩,
   ⟨(some 45), .mv (.t 0), [8], (some (8, true))⟩,
   ⟨(some 46), .nilck (.t 45), [9, 8], (some (8, true))⟩,
   ⟨(some 47), .faddr 0 (.t 46), [10, 8], (some (8, true))⟩,
   ⟨(some 48), .load none (.t 47), [11, 8], (some (8, true))⟩,
   ⟨(some 49), .mv (.t 6), [8], (some (8, true))⟩,
   ⟨(some 50), .iaddrS 21 (.t 48) (.t 49), [12, 13, 8], (some (8, true))⟩,
   ⟨(some 51), .faddr 0 (.t 50), [14, 8], (some (8, true))⟩,
   ⟨(some 52), .load none (.t 51), [15, 8], (some (8, true))⟩,
   ⟨(some 53), .mv (.t 1), [8], (some (8, true))⟩,
   ⟨(some 54), .bin Go.BinOp.eql .no (.t 52) (.t 53), [16, 17, 8], (some (8, true))⟩,
   ⟨(some 55), .pick (.t 44) (.t 54) (.c (.p (.bool false))), [8, 18], none⟩,
   ⟨(some 4), .asg (.t 36), [0, 8, 0], none⟩,
   ⟨(some 5), .asg (.t 55), [19, 20, 0, 1, 2, 3, 4, 5, 6, 7, 8, 9, 10, 11, 12, 13, 14, 15, 16, 17, 18, 19, 20], none⟩]
def vf54 : VFun where
  vars := [0, 1, 45, 46, 47, 48, 49, 50, 51, 52, 53, 54]
  boxes := []
  mv := []
  res := [(.t 4), (.t 5)]
  body := (.seq (.region none vf54r0 [0, 1, 6, 34, 45, 46, 47, 48, 49, 50, 51, 52, 53, 54] [0, 1, 6, 34, 45, 46, 47, 48, 49, 50, 51, 52, 53, 54])
 (.seq (.region (some ([5, 6], (.alt 0 (.alt 1 (.alt 2 (.alt 3 (.alt 4 (.one 5 (.one 6 .fin)) (.alt 5 (.one 4 (.one 6 .fin)) .fin)) (.alt 5 (.one 3 (.one 4 (.one 6 .fin))) .fin)) (.alt 5 (.one 2 (.one 3 (.one 4 (.one 6 .fin)))) .fin)) (.alt 5 (.one 1 (.one 2 (.one 3 (.one 4 (.one 6 .fin))))) .fin)) (.alt 5 (.one 0 (.one 1 (.one 2 (.one 3 (.one 4 (.one 6 .fin)))))) .fin)))) vf54r1 [0, 1, 6, 7, 8, 13, 22, 34, 35, 45, 46, 47, 48, 49, 50, 51, 52, 53, 54] [0, 1, 6, 7, 8, 13, 22, 34, 35, 45, 46, 47, 48, 49, 50, 51, 52, 53, 54])
 (.seq (.block 0 (.loop (.seq (.seq (.region none vf54r2 [0, 1, 6, 7, 8, 13, 16, 22, 34, 35, 45, 46, 47, 48, 49, 50, 51, 52, 53, 54] [0, 1, 6, 7, 8, 13, 16, 22, 34, 35, 45, 46, 47, 48, 49, 50, 51, 52, 53, 54])
 (.cond (.t 16) .skip
 (.exit 0)))
 (.block 1 (.seq (.region none vf54r3 [0, 1, 6, 7, 8, 13, 22, 34, 35, 45, 46, 47, 48, 49, 50, 51, 52, 53, 54] [0, 1, 6, 7, 8, 13, 22, 34, 35, 45, 46, 47, 48, 49, 50, 51, 52, 53, 54])
 (.seq (.region none vf54r4 [0, 1, 6, 7, 8, 13, 22, 32, 34, 35, 45, 46, 47, 48, 49, 50, 51, 52, 53, 54] [0, 1, 6, 7, 8, 13, 22, 32, 34, 35, 45, 46, 47, 48, 49, 50, 51, 52, 53, 54])
 (.cond (.t 32) (.region none vf54r5 [0, 1, 6, 7, 8, 13, 22, 34, 35, 45, 46, 47, 48, 49, 50, 51, 52, 53, 54] [0, 1, 6, 7, 8, 13, 22, 34, 35, 45, 46, 47, 48, 49, 50, 51, 52, 53, 54])
 (.region none vf54r6 [0, 1, 6, 7, 8, 13, 22, 34, 35, 45, 46, 47, 48, 49, 50, 51, 52, 53, 54] [0, 1, 6, 7, 8, 13, 22, 34, 35, 45, 46, 47, 48, 49, 50, 51, 52, 53, 54]))))))))
 (.seq (.region (some ([], (.one 0 (.one 1 (.one 2 (.one 3 (.one 4 (.one 5 (.one 6 (.one 7 (.one 8 (.one 9 (.one 10 (.one 11 (.one 12 (.one 13 (.one 14 (.one 15 (.one 16 (.one 17 (.one 18 (.one 19 (.one 20 (.one 21 .fin)))))))))))))))))))))))) vf54r7 [4, 5, 6, 34, 36, 55] [4, 5, 6, 34, 36, 55])
 .ret))))

def vf55r0 : List VOper :=
  [⟨(some 6), .asg (.c (.p .nils)), [], none⟩]
def vf55r1 : List VOper :=
  [⟨(some 10), .mv (.t 0), [], none⟩,
   ⟨(some 11), .mv (.t 1), [], none⟩,
   ⟨(some 12), .slc false 21 (.t 10) (some (.t 11)) none none, [0, 1], none⟩]
def vf55r2 : List VOper :=
  [⟨(some 13), .mv (.t 2), [], none⟩,
   ⟨(some 14), .len false (.t 13), [0], none⟩,
   ⟨(some 7), .asg (.t 14), [1, 0, 1], none⟩]
def vf55r3 : List VOper :=
  [⟨(some 15), .mv (.t 7), [], none⟩,
   ⟨(some 16), .bin Go.BinOp.eql .no (.t 15) (.c (.p (.int Go.IntKind.i64 0))), [0], none⟩]
def vf55r4 : List VOper :=
  [⟨(some 17), .mv (.t 0), [], none⟩,
   ⟨(some 6), .asg (.t 17), [0, 0], none⟩]
def vf55r5 : List VOper :=
  [⟨(some 18), .mv (.t 0), [], none⟩,
   ⟨(some 19), .len false (.t 18), [0], none⟩,
   ⟨(some 8), .asg (.t 19), [1, 0, 1], none⟩]
def vf55r6 : List VOper :=
  [⟨(some 20), .mv (.t 1), [], none⟩,
   ⟨(some 21), .mv (.t 8), [], none⟩,
   ⟨(some 22), .bin Go.BinOp.eql .no (.t 20) (.t 21), [0, 1], none⟩]
def vf55r7 : List VOper :=
  [⟨(some 23), .mv (.t 0), [], none⟩,
   ⟨(some 24), .mv (.t 2), [], none⟩,
   ⟨(some 25), .append false 21 200 (.t 23) (.t 24), [0, 1], none⟩,
   ⟨(some 6), .asg (.t 25), [2, 2, 0, 1, 2], none⟩]
def vf55r8 : List VOper :=
  [⟨(some 55), .mv (.t 9), [], none⟩,
   ⟨(some 6), .asg (.t 55), [0, 0], none⟩]
def vf55r9 : List VOper :=
  [⟨(some 56), .mv (.t 0), [], none⟩,
   ⟨(some 57), .mv (.t 8), [], none⟩,
   ⟨(some 58), .mv (.t 7), [], none⟩,
   ⟨(some 59), .bin Go.BinOp.add .no (.t 57) (.t 58), [1, 2], none⟩,
   ⟨(some 60), .slc false 21 (.t 56) none (some (.t 59)) none, [0, 3], none⟩,
   ⟨(some 0), .asg (.t 60), [4, 0, 1, 2, 3, 4], none⟩]
def vf55r10 : List VOper :=
  [⟨(some 61), .mv (.t 2), [], none⟩,
   ⟨(some 62), .mv (.t 0), [], none⟩,
   ⟨(some 63), .mv (.t 1), [], none⟩,
   ⟨(some 64), .mv (.t 7), [], none⟩,
   ⟨(some 65), .bin Go.BinOp.add .no (.t 63) (.t 64), [2, 3], none⟩,
   ⟨(some 66), .slc false 21 (.t 62) (some (.t 65)) none none, [1, 4], none⟩,
   ⟨(some 67), .call 56 [(.t 61), (.t 66)], [0, 5], none⟩,
   ⟨(some 68), .un Go.UnOp.not (.t 67), [6], none⟩]
def vf55r11 : List VOper :=
  [⟨(some 83), .mv (.t 0), [], none⟩,
   ⟨(some 6), .asg (.t 83), [0, 0], none⟩]
def vf55r12 : List VOper :=
  [⟨(some 89), .mv (.t 0), [], none⟩,
   ⟨(some 90), .mv (.t 1), [], none⟩,
   ⟨(some 91), .slc false 21 (.t 89) (some (.t 90)) none none, [0, 1], none⟩,
   ⟨(some 92), .mv (.t 7), [], none⟩,
   ⟨(some 93), .call 57 [(.t 91), (.t 92)], [2, 3], none⟩]
def vf55r13 : List VOper :=
  [⟨(some 94), .mv (.t 0), [], none⟩,
   ⟨(some 6), .asg (.t 94), [0, 0], none⟩]
def vf55 : VFun where
  vars := [0, 1, 2]
  boxes := []
  mv := []
  res := [(.t 6)]
  body := (.seq (.region none vf55r0 [0, 1, 2, 56, 60] [0, 1, 2, 56, 60])
 (.seq (.region none vf55r1 [0, 1, 2, 56, 60] [0, 1, 2, 56, 60])
 (.seq (.region none vf55r2 [0, 1, 2, 7, 14, 56, 60] [0, 1, 2, 7, 14, 56, 60])
 (.seq (.seq (.region none vf55r3 [0, 1, 2, 16, 56, 60] [0, 1, 2, 16, 56, 60])
 (.cond (.t 16) (.seq (.region none vf55r4 [0, 6, 9, 17, 25, 55, 56, 60, 83, 94] [0, 6, 9, 17, 25, 55, 56, 60, 83, 94])
 .ret)
 .skip))
 (.seq (.region none vf55r5 [0, 1, 2, 8, 19, 56, 60] [0, 1, 2, 8, 19, 56, 60])
 (.seq (.seq (.region none vf55r6 [0, 2, 22, 56, 60] [0, 2, 22, 56, 60])
 (.cond (.t 22) (.seq (.region none vf55r7 [0, 6, 9, 17, 25, 55, 56, 60, 83, 94] [0, 6, 9, 17, 25, 55, 56, 60, 83, 94])
 .ret)
 .skip))
 (.seq (.seq .stuck
 (.cond (.t 31) (.seq .stuck
 (.seq .stuck
 (.seq .stuck
 (.seq (.region none vf55r8 [0, 6, 9, 17, 25, 55, 56, 60, 83, 94] [0, 6, 9, 17, 25, 55, 56, 60, 83, 94])
 .ret))))
 .skip))
 (.seq (.region none vf55r9 [0, 1, 2, 7, 14, 56, 60] [0, 1, 2, 7, 14, 56, 60])
 (.seq (.seq (.region none vf55r10 [68] [68])
 (.cond (.t 68) (.seq .stuck
 (.seq .stuck
 (.seq (.region none vf55r11 [0, 6, 9, 17, 25, 55, 56, 60, 83, 94] [0, 6, 9, 17, 25, 55, 56, 60, 83, 94])
 .ret)))
 .skip))
 (.seq .stuck
 (.seq (.region none vf55r12 [0, 56, 60] [0, 56, 60])
 (.seq (.region none vf55r13 [0, 6, 9, 17, 25, 55, 56, 60, 83, 94] [0, 6, 9, 17, 25, 55, 56, 60, 83, 94])
 .ret))))))))))))

def vf57r0 : List VOper :=
  [⟨(some 4), .mv (.t 0), [], none⟩,
   ⟨(some 5), .mv (.t 0), [], none⟩,
   ⟨(some 6), .len false (.t 5), [1], none⟩,
   ⟨(some 7), .mv (.t 1), [], none⟩,
   ⟨(some 8), .bin Go.BinOp.sub .no (.t 6) (.t 7), [2, 3], none⟩,
   ⟨(some 9), .call 58 [(.t 4), (.t 8)], [0, 4], none⟩]
def vf57 : VFun where
  vars := [0, 1]
  boxes := []
  mv := []
  res := []
  body := (.region none vf57r0 [] [])

def vf58r0 : List VOper :=
  [⟨(some 4), .mv (.t 0), [], none⟩,
   ⟨(some 5), .mv (.t 1), [], none⟩,
   ⟨(some 6), .slc false 21 (.t 4) none (some (.t 5)) none, [0, 1], none⟩,
   ⟨(some 7), .call 59 [(.t 6)], [2], none⟩]
def vf58r1 : List VOper :=
  [⟨(some 8), .mv (.t 0), [], none⟩,
   ⟨(some 9), .mv (.t 1), [], none⟩,
   ⟨(some 10), .slc false 21 (.t 8) (some (.t 9)) none none, [0, 1], none⟩,
   ⟨(some 11), .call 59 [(.t 10)], [2], none⟩]
def vf58r2 : List VOper :=
  [⟨(some 12), .mv (.t 0), [], none⟩,
   ⟨(some 13), .call 59 [(.t 12)], [0], none⟩]
def vf58 : VFun where
  vars := [0, 1]
  boxes := []
  mv := []
  res := []
  body := (.seq (.region none vf58r0 [0, 1] [0, 1])
 (.seq (.region none vf58r1 [0] [0])
 (.region none vf58r2 [] [])))

def vf59r0 : List VOper :=
  [⟨(some 4), .mv (.t 0), [], none⟩,
   ⟨(some 5), .len false (.t 4), [0], none⟩,
   ⟨(some 6), .bin Go.BinOp.sub .no (.t 5) (.c (.p (.int Go.IntKind.i64 1))), [1], none⟩,
   ⟨(some 2), .asg (.c (.p (.int Go.IntKind.i64 0))), [], none⟩,
   ⟨(some 3), .asg (.t 6), [2, 3, 0, 1, 2, 3], none⟩]
def vf59r1 : List VOper :=
  [⟨(some 7), .mv (.t 2), [], none⟩,
   ⟨(some 8), .mv (.t 3), [], none⟩,
   ⟨(some 9), .bin Go.BinOp.lss .no (.t 7) (.t 8), [0, 1], none⟩]
def vf59r2 : List VOper :=
  [⟨(some 14), .mv (.t 0), [], none⟩,
   ⟨(some 15), .mv (.t 2), [], none⟩,
   ⟨(some 16), .mv (.t 0), [], none⟩,
   ⟨(some 17), .mv (.t 3), [], none⟩,
   ⟨(some 18), .mv (.t 0), [], none⟩,
   ⟨(some 19), .mv (.t 3), [], none⟩,
   ⟨(some 20), .iaddrS 21 (.t 18) (.t 19), [4, 5], none⟩,
   ⟨(some 21), .load (some 21) (.t 20), [6], none⟩,
   ⟨(some 22), .mv (.t 0), [], none⟩,
   ⟨(some 23), .mv (.t 2), [], none⟩,
   ⟨(some 24), .iaddrS 21 (.t 22) (.t 23), [8, 9], none⟩,
   ⟨(some 25), .load (some 21) (.t 24), [10], none⟩,
   ⟨(some 26), .iaddrS 21 (.t 14) (.t 15), [0, 1, 0, 1, 4, 5, 6, 7, 11], none⟩,
   ⟨none, .store 21 (.t 26) (.t 21), [12, 7, 0, 1, 4, 5, 6, 7, 11], none⟩,
   ⟨(some 27), .iaddrS 21 (.t 16) (.t 17), [2, 3, 0, 1, 2, 3, 4, 5, 6, 7, 8, 9, 10, 11, 12, 13], none⟩,
   ⟨none, .store 21 (.t 27) (.t 25), [14, 11, 13, 0, 1, 2, 3, 4, 5, 6, 7, 8, 9, 10, 11, 12, 13], none⟩]
def vf59r3 : List VOper :=
  [⟨(some 10), .mv (.t 2), [], none⟩,
   ⟨(some 11), .bin Go.BinOp.add .no (.t 10) (.c (.p (.int Go.IntKind.i64 1))), [0], none⟩,
   ⟨(some 12), .mv (.t 3), [], none⟩,
   ⟨(some 13), .bin Go.BinOp.sub .no (.t 12) (.c (.p (.int Go.IntKind.i64 1))), [2], none⟩,
   ⟨(some 2), .asg (.t 11), [1, 0, 1], none⟩,
   ⟨(some 3), .asg (.t 13), [3, 4, 0, 1, 2, 3, 4], none⟩]
def vf59 : VFun where
  vars := [0]
  boxes := []
  mv := []
  res := []
  body := (.seq (.region none vf59r0 [0, 2, 3, 6, 11, 13] [0, 2, 3, 6, 11, 13])
 (.block 0 (.loop (.seq (.seq (.region none vf59r1 [0, 2, 3, 6, 9, 11, 13] [0, 2, 3, 6, 9, 11, 13])
 (.cond (.t 9) .skip
 (.exit 0)))
 (.seq (.block 1 (.region (some ([13, 15], (.one 0 (.one 1 (.one 4 (.one 5 (.one 6 (.one 7 (.one 8 (.one 9 (.one 10 (.one 11 (.one 12 (.alt 2 (.alt 3 (.one 13 (.one 14 (.one 15 .fin))) (.alt 13 (.one 3 (.one 14 (.one 15 .fin))) .fin)) (.alt 3 (.alt 2 (.one 13 (.one 14 (.one 15 .fin))) (.alt 13 (.one 2 (.one 14 (.one 15 .fin))) .fin)) (.alt 13 (.one 2 (.one 3 (.one 14 (.one 15 .fin)))) .fin)))))))))))))))) vf59r2 [0, 2, 3, 6, 11, 13] [0, 2, 3, 6, 11, 13]))
 (.region none vf59r3 [0, 2, 3, 6, 11, 13] [0, 2, 3, 6, 11, 13]))))))


def nonro : List Nat := [6, 7, 8, 9, 10, 18, 19, 23, 30, 32, 33, 36, 43, 47, 55, 57, 58, 59]
def ro (f : Nat) : Bool := !nonro.contains f
def fl : List (Nat × VFun) := [(3, vf3), (4, vf4), (5, vf5), (6, vf6), (7, vf7), (8, vf8), (9, vf9), (10, vf10), (11, vf11), (12, vf12), (13, vf13), (14, vf14), (15, vf15), (16, vf16), (17, vf17), (18, vf18), (19, vf19), (20, vf20), (21, vf21), (22, vf22), (23, vf23), (24, vf24), (25, vf25), (26, vf26), (27, vf27), (28, vf28), (29, vf29), (30, vf30), (31, vf31), (32, vf32), (33, vf33), (34, vf34), (35, vf35), (36, vf36), (37, vf37), (38, vf38), (39, vf39), (40, vf40), (41, vf41), (42, vf42), (43, vf43), (44, vf44), (45, vf45), (46, vf46), (47, vf47), (48, vf48), (49, vf49), (50, vf50), (51, vf51), (52, vf52), (53, vf53), (54, vf54), (55, vf55), (57, vf57), (58, vf58), (59, vf59)]
/-- the table, its functions a name -/
def T' (fns : Nat → Option VFun) (pr : Nat → Option Prim) : Tab where
  fns := fns
  ro := ro
  prim := pr
/-- the table with these functions by hand -/
abbrev T (ps : List (Nat × Prim)) : Tab := T' (look fl) (look ps)

theorem ok3 : funOf Try.prog ro [] Try.f3 = some vf3 := by kernel_rfl
theorem ok4 : funOf Try.prog ro [] Try.f4 = some vf4 := by kernel_rfl
theorem ok5 : funOf Try.prog ro [] Try.f5 = some vf5 := by kernel_rfl
theorem ok6 : funOf Try.prog ro [] Try.f6 = some vf6 := by kernel_rfl
theorem ok7 : funOf Try.prog ro [] Try.f7 = some vf7 := by kernel_rfl
theorem ok8 : funOf Try.prog ro [] Try.f8 = some vf8 := by kernel_rfl
theorem ok9 : funOf Try.prog ro [] Try.f9 = some vf9 := by kernel_rfl
theorem ok10 : funOf Try.prog ro [] Try.f10 = some vf10 := by kernel_rfl
theorem ok11 : funOf Try.prog ro [] Try.f11 = some vf11 := by kernel_rfl
theorem ok12 : funOf Try.prog ro [] Try.f12 = some vf12 := by kernel_rfl
theorem ok13 : funOf Try.prog ro [] Try.f13 = some vf13 := by kernel_rfl
theorem ok14 : funOf Try.prog ro [] Try.f14 = some vf14 := by kernel_rfl
theorem ok15 : funOf Try.prog ro [] Try.f15 = some vf15 := by kernel_rfl
theorem ok16 : funOf Try.prog ro [] Try.f16 = some vf16 := by kernel_rfl
theorem ok17 : funOf Try.prog ro [] Try.f17 = some vf17 := by kernel_rfl
theorem ok18 : funOf Try.prog ro [] Try.f18 = some vf18 := by kernel_rfl
theorem ok19 : funOf Try.prog ro [] Try.f19 = some vf19 := by kernel_rfl
theorem ok20 : funOf Try.prog ro [] Try.f20 = some vf20 := by kernel_rfl
theorem ok21 : funOf Try.prog ro [] Try.f21 = some vf21 := by kernel_rfl
theorem ok22 : funOf Try.prog ro [] Try.f22 = some vf22 := by kernel_rfl
theorem ok23 : funOf Try.prog ro [] Try.f23 = some vf23 := by kernel_rfl
theorem ok24 : funOf Try.prog ro [] Try.f24 = some vf24 := by kernel_rfl
theorem ok25 : funOf Try.prog ro [] Try.f25 = some vf25 := by kernel_rfl
theorem ok26 : funOf Try.prog ro [] Try.f26 = some vf26 := by kernel_rfl
theorem ok27 : funOf Try.prog ro [] Try.f27 = some vf27 := by kernel_rfl
theorem ok28 : funOf Try.prog ro [] Try.f28 = some vf28 := by kernel_rfl
theorem ok29 : funOf Try.prog ro [] Try.f29 = some vf29 := by kernel_rfl
theorem ok30 : funOf Try.prog ro [] Try.f30 = some vf30 := by kernel_rfl
theorem ok31 : funOf Try.prog ro [] Try.f31 = some vf31 := by kernel_rfl
theorem ok32 : funOf Try.prog ro [] Try.f32 = some vf32 := by kernel_rfl
theorem ok33 : funOf Try.prog ro [] Try.f33 = some vf33 := by kernel_rfl
theorem ok34 : funOf Try.prog ro [] Try.f34 = some vf34 := by kernel_rfl
theorem ok35 : funOf Try.prog ro [] Try.f35 = some vf35 := by kernel_rfl
theorem ok36 : funOf Try.prog ro [] Try.f36 = some vf36 := by kernel_rfl
theorem ok37 : funOf Try.prog ro [] Try.f37 = some vf37 := by kernel_rfl
theorem ok38 : funOf Try.prog ro [] Try.f38 = some vf38 := by kernel_rfl
theorem ok39 : funOf Try.prog ro [] Try.f39 = some vf39 := by kernel_rfl
theorem ok40 : funOf Try.prog ro [] Try.f40 = some vf40 := by kernel_rfl
theorem ok41 : funOf Try.prog ro [] Try.f41 = some vf41 := by kernel_rfl
theorem ok42 : funOf Try.prog ro [] Try.f42 = some vf42 := by kernel_rfl
theorem ok43 : funOf Try.prog ro [] Try.f43 = some vf43 := by kernel_rfl
theorem ok44 : funOf Try.prog ro [] Try.f44 = some vf44 := by kernel_rfl
theorem ok45 : funOf Try.prog ro [] Try.f45 = some vf45 := by kernel_rfl
theorem ok46 : funOf Try.prog ro [] Try.f46 = some vf46 := by kernel_rfl
theorem ok47 : funOf Try.prog ro [] Try.f47 = some vf47 := by kernel_rfl
theorem ok48 : funOf Try.prog ro [] Try.f48 = some vf48 := by kernel_rfl
theorem ok49 : funOf Try.prog ro [] Try.f49 = some vf49 := by kernel_rfl
theorem ok50 : funOf Try.prog ro [] Try.f50 = some vf50 := by kernel_rfl
theorem ok51 : funOf Try.prog ro [] Try.f51 = some vf51 := by kernel_rfl
theorem ok52 : funOf Try.prog ro [] Try.f52 = some vf52 := by kernel_rfl
theorem ok53 : funOf Try.prog ro [] Try.f53 = some vf53 := by kernel_rfl
theorem ok54 : funOf Try.prog ro [] Try.f54 = some vf54 := by kernel_rfl
theorem ok55 : funOf Try.prog ro [] Try.f55 = some vf55 := by kernel_rfl
theorem ok57 : funOf Try.prog ro [] Try.f57 = some vf57 := by kernel_rfl
theorem ok58 : funOf Try.prog ro [] Try.f58 = some vf58 := by kernel_rfl
theorem ok59 : funOf Try.prog ro [] Try.f59 = some vf59 := by kernel_rfl

theorem look_mem {α : Type} : ∀ {l : List (Nat × α)} {k : Nat} {v : α}, look l k = some v → (k, v) ∈ l
  | [], _, _, h => by simp [look] at h
  | (j, u) :: r, k, v, h => by
    unfold look at h
    split at h
    · rename_i e; subst e; simp only [Option.some.injEq] at h; subst h; simp
    · exact List.mem_cons_of_mem _ (look_mem h)

theorem mixed : Try.prog.follows .mixedOrders = true := by kernel_rfl
theorem tabOk (ps : List (Nat × Prim)) : TabOk Try.prog (T ps) := by
  intro f vf h
  have hm := look_mem (show look fl f = some vf from h)
  simp only [fl, List.mem_cons, Prod.mk.injEq, List.not_mem_nil, or_false] at hm
  rcases hm with ⟨rfl, rfl⟩ | ⟨rfl, rfl⟩ | ⟨rfl, rfl⟩ | ⟨rfl, rfl⟩ | ⟨rfl, rfl⟩ | ⟨rfl, rfl⟩ | ⟨rfl, rfl⟩ | ⟨rfl, rfl⟩ | ⟨rfl, rfl⟩ | ⟨rfl, rfl⟩ | ⟨rfl, rfl⟩ | ⟨rfl, rfl⟩ | ⟨rfl, rfl⟩ | ⟨rfl, rfl⟩ | ⟨rfl, rfl⟩ | ⟨rfl, rfl⟩ | ⟨rfl, rfl⟩ | ⟨rfl, rfl⟩ | ⟨rfl, rfl⟩ | ⟨rfl, rfl⟩ | ⟨rfl, rfl⟩ | ⟨rfl, rfl⟩ | ⟨rfl, rfl⟩ | ⟨rfl, rfl⟩ | ⟨rfl, rfl⟩ | ⟨rfl, rfl⟩ | ⟨rfl, rfl⟩ | ⟨rfl, rfl⟩ | ⟨rfl, rfl⟩ | ⟨rfl, rfl⟩ | ⟨rfl, rfl⟩ | ⟨rfl, rfl⟩ | ⟨rfl, rfl⟩ | ⟨rfl, rfl⟩ | ⟨rfl, rfl⟩ | ⟨rfl, rfl⟩ | ⟨rfl, rfl⟩ | ⟨rfl, rfl⟩ | ⟨rfl, rfl⟩ | ⟨rfl, rfl⟩ | ⟨rfl, rfl⟩ | ⟨rfl, rfl⟩ | ⟨rfl, rfl⟩ | ⟨rfl, rfl⟩ | ⟨rfl, rfl⟩ | ⟨rfl, rfl⟩ | ⟨rfl, rfl⟩ | ⟨rfl, rfl⟩ | ⟨rfl, rfl⟩ | ⟨rfl, rfl⟩ | ⟨rfl, rfl⟩ | ⟨rfl, rfl⟩ | ⟨rfl, rfl⟩ | ⟨rfl, rfl⟩ | ⟨rfl, rfl⟩ | ⟨rfl, rfl⟩
  · exact ⟨Try.f3, ro, [], Try.func3, by decide +kernel, ok3⟩
  · exact ⟨Try.f4, ro, [], Try.func4, by decide +kernel, ok4⟩
  · exact ⟨Try.f5, ro, [], Try.func5, by decide +kernel, ok5⟩
  · exact ⟨Try.f6, ro, [], Try.func6, by decide +kernel, ok6⟩
  · exact ⟨Try.f7, ro, [], Try.func7, by decide +kernel, ok7⟩
  · exact ⟨Try.f8, ro, [], Try.func8, by decide +kernel, ok8⟩
  · exact ⟨Try.f9, ro, [], Try.func9, by decide +kernel, ok9⟩
  · exact ⟨Try.f10, ro, [], Try.func10, by decide +kernel, ok10⟩
  · exact ⟨Try.f11, ro, [], Try.func11, by decide +kernel, ok11⟩
  · exact ⟨Try.f12, ro, [], Try.func12, by decide +kernel, ok12⟩
  · exact ⟨Try.f13, ro, [], Try.func13, by decide +kernel, ok13⟩
  · exact ⟨Try.f14, ro, [], Try.func14, by decide +kernel, ok14⟩
  · exact ⟨Try.f15, ro, [], Try.func15, by decide +kernel, ok15⟩
  · exact ⟨Try.f16, ro, [], Try.func16, by decide +kernel, ok16⟩
  · exact ⟨Try.f17, ro, [], Try.func17, by decide +kernel, ok17⟩
  · exact ⟨Try.f18, ro, [], Try.func18, by decide +kernel, ok18⟩
  · exact ⟨Try.f19, ro, [], Try.func19, by decide +kernel, ok19⟩
  · exact ⟨Try.f20, ro, [], Try.func20, by decide +kernel, ok20⟩
  · exact ⟨Try.f21, ro, [], Try.func21, by decide +kernel, ok21⟩
  · exact ⟨Try.f22, ro, [], Try.func22, by decide +kernel, ok22⟩
  · exact ⟨Try.f23, ro, [], Try.func23, by decide +kernel, ok23⟩
  · exact ⟨Try.f24, ro, [], Try.func24, by decide +kernel, ok24⟩
  · exact ⟨Try.f25, ro, [], Try.func25, by decide +kernel, ok25⟩
  · exact ⟨Try.f26, ro, [], Try.func26, by decide +kernel, ok26⟩
  · exact ⟨Try.f27, ro, [], Try.func27, by decide +kernel, ok27⟩
  · exact ⟨Try.f28, ro, [], Try.func28, by decide +kernel, ok28⟩
  · exact ⟨Try.f29, ro, [], Try.func29, by decide +kernel, ok29⟩
  · exact ⟨Try.f30, ro, [], Try.func30, by decide +kernel, ok30⟩
  · exact ⟨Try.f31, ro, [], Try.func31, by decide +kernel, ok31⟩
  · exact ⟨Try.f32, ro, [], Try.func32, by decide +kernel, ok32⟩
  · exact ⟨Try.f33, ro, [], Try.func33, by decide +kernel, ok33⟩
  · exact ⟨Try.f34, ro, [], Try.func34, by decide +kernel, ok34⟩
  · exact ⟨Try.f35, ro, [], Try.func35, by decide +kernel, ok35⟩
  · exact ⟨Try.f36, ro, [], Try.func36, by decide +kernel, ok36⟩
  · exact ⟨Try.f37, ro, [], Try.func37, by decide +kernel, ok37⟩
  · exact ⟨Try.f38, ro, [], Try.func38, by decide +kernel, ok38⟩
  · exact ⟨Try.f39, ro, [], Try.func39, by decide +kernel, ok39⟩
  · exact ⟨Try.f40, ro, [], Try.func40, by decide +kernel, ok40⟩
  · exact ⟨Try.f41, ro, [], Try.func41, by decide +kernel, ok41⟩
  · exact ⟨Try.f42, ro, [], Try.func42, by decide +kernel, ok42⟩
  · exact ⟨Try.f43, ro, [], Try.func43, by decide +kernel, ok43⟩
  · exact ⟨Try.f44, ro, [], Try.func44, by decide +kernel, ok44⟩
  · exact ⟨Try.f45, ro, [], Try.func45, by decide +kernel, ok45⟩
  · exact ⟨Try.f46, ro, [], Try.func46, by decide +kernel, ok46⟩
  · exact ⟨Try.f47, ro, [], Try.func47, by decide +kernel, ok47⟩
  · exact ⟨Try.f48, ro, [], Try.func48, by decide +kernel, ok48⟩
  · exact ⟨Try.f49, ro, [], Try.func49, by decide +kernel, ok49⟩
  · exact ⟨Try.f50, ro, [], Try.func50, by decide +kernel, ok50⟩
  · exact ⟨Try.f51, ro, [], Try.func51, by decide +kernel, ok51⟩
  · exact ⟨Try.f52, ro, [], Try.func52, by decide +kernel, ok52⟩
  · exact ⟨Try.f53, ro, [], Try.func53, by decide +kernel, ok53⟩
  · exact ⟨Try.f54, ro, [], Try.func54, by decide +kernel, ok54⟩
  · exact ⟨Try.f55, ro, [], Try.func55, by decide +kernel, ok55⟩
  · exact ⟨Try.f57, ro, [], Try.func57, by decide +kernel, ok57⟩
  · exact ⟨Try.f58, ro, [], Try.func58, by decide +kernel, ok58⟩
  · exact ⟨Try.f59, ro, [], Try.func59, by decide +kernel, ok59⟩

theorem prims_nil : PrimOk Try.prog (T []) := fun f p h => by simp [T, T', look] at h
theorem prims_q {f : Nat} {F : List SV → Option SV} {ps : List (Nat × Prim)} (h : QPrimOk Try.prog f F) (k : PrimOk Try.prog (T ps)) : PrimOk Try.prog (T ((f, .q F) :: ps)) := by
  intro g p e
  simp only [T, T', look] at e
  split at e
  · rename_i e'; subst e'; simp only [Option.some.injEq] at e; subst e; exact h
  · exact k g p e
/-- a function that the machine has run on plain values -/
theorem pureQ {ps : List (Nat × Prim)} (k : PrimOk Try.prog (T ps)) {f : Nat} {F : List SV → Option SV}
    (h : ∀ args v, F args = some v → args.all plainA = true ∧ okRet 0 0 v = true ∧ ∃ hp' out', CallsTo (T ps) ⟨0, 0⟩ f args [] [] (v, hp', out')) : QPrimOk Try.prog f F :=
  pure_prim mixed (tabOk ps) k fun args v e => by
    obtain ⟨h1, h2, hp', out', n, h3⟩ := h args v e
    exact ⟨h1, h2, n, hp', out', h3 n (Nat.le_refl _)⟩
end Go.Proofs.Ytidlbomanfkibaa.L
