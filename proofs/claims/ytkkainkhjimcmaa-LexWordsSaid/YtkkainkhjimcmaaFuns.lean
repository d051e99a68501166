import Derived.Test.YtkkainkhjimcmaaVG
import Derived.Test.YtkkainkhjimcmaaChecked
/-
The machine's code of the functions that are reached, and that it is the translated program's. Printed by program.
-/
namespace Go.Proofs.Ytkkainkhjimcmaa.L
open Go Go.VM
set_option linter.unusedVariables false

def look {α : Type} : List (Nat × α) → Nat → Option α
  | [], _ => none
  | (j, v) :: r, k => if j = k then some v else look r k
def vf3r0 : List VOper :=
  [⟨(some 2), .asg (.c (.p (.bool false))), [], none⟩]
def vf3r1 : List VOper :=
  [⟨(some 9), .mv (.t 0), [], none⟩,
   ⟨(some 10), .len true (.t 9), [0], none⟩,
   ⟨(some 11), .bin Go.BinOp.gtr .no (.t 10) (.c (.p (.int Go.IntKind.i64 4200))), [1], none⟩]
def vf3r2 : List VOper :=
  [⟨(some 12), .mv (.t 0), [], none⟩,
   ⟨(some 13), .slc true 1 (.t 12) none (some (.c (.p (.int Go.IntKind.i64 4200)))) none, [0], none⟩,
   ⟨(some 0), .asg (.t 13), [1, 0, 1], none⟩]
def vf3r3 : List VOper :=
  [⟨(some 15), .mv (.t 0), [], none⟩,
   ⟨(some 16), .call 7 [(.t 15)], [0], none⟩,
   ⟨(some 14), .mv (.t 16), [1], none⟩,
   ⟨(some 17), .ext (.t 14) 0, [2], none⟩,
   ⟨(some 18), .ext (.t 14) 1, [2], none⟩,
   ⟨(some 19), .ext (.t 14) 2, [2], none⟩,
   ⟨(some 3), .asg (.t 17), [3, 1, 0, 1, 2, 3], none⟩,
   ⟨(some 4), .asg (.t 18), [4, 6, 0, 1, 2, 3, 4, 6], none⟩,
   ⟨(some 5), .asg (.t 19), [5, 7, 0, 1, 2, 3, 4, 5, 6, 7], none⟩]
def vf3r4 : List VOper :=
  [⟨(some 21), .mv (.t 0), [], none⟩,
   ⟨(some 22), .call 8 [(.t 21)], [0], none⟩,
   ⟨(some 20), .mv (.t 22), [1], none⟩,
   ⟨(some 23), .ext (.t 20) 0, [2], none⟩,
   ⟨(some 24), .ext (.t 20) 1, [2], none⟩,
   ⟨(some 25), .ext (.t 20) 2, [2], none⟩,
   ⟨(some 6), .asg (.t 23), [3, 1, 0, 1, 2, 3], none⟩,
   ⟨(some 7), .asg (.t 24), [4, 6, 0, 1, 2, 3, 4, 6], none⟩,
   ⟨(some 8), .asg (.t 25), [5, 7, 0, 1, 2, 3, 4, 5, 6, 7], none⟩]
def vf3r5 : List VOper :=
  [⟨(some 26), .mv (.t 5), [], none⟩,
   ⟨(some 27), .mv (.t 8), [], none⟩,
   ⟨(some 28), .bin Go.BinOp.eql .no (.t 26) (.t 27), [0, 1], none⟩,
   ⟨(some 29), .mv (.t 28), [2], none⟩,
   ⟨(some 30), .mv (.t 4), [3], (some (3, true))⟩,
   ⟨(some 31), .mv (.t 7), [3], (some (3, true))⟩,
   ⟨(some 32), .bin Go.BinOp.eql .no (.t 30) (.t 31), [4, 5, 3], (some (3, true))⟩,
   ⟨(some 33), .pick (.t 29) (.t 32) (.c (.p (.bool false))), [3, 6], none⟩,
   ⟨(some 34), .mv (.t 33), [7, 3], none⟩,
   ⟨(some 35), .mv (.t 3), [8], (some (8, true))⟩,
   ⟨(some 36), .mv (.t 6), [8], (some (8, true))⟩,
   ⟨(some 37), .call 9 [(.t 35), (.t 36), (.c (.p (.int Go.IntKind.i64 0)))], [9, 10, 8, 8], (some (8, true))⟩,
   ⟨(some 38), .pick (.t 34) (.t 37) (.c (.p (.bool false))), [8, 11], none⟩,
   ⟨(some 39), .mv (.t 38), [12, 11], none⟩,
   ⟨(some 40), .call 10 [], [13, 13], (some (13, true))⟩,
   ⟨(some 41), .pick (.t 39) (.t 40) (.c (.p (.bool false))), [13, 14], none⟩,
   ⟨(some 2), .asg (.t 41), [15, 14, 0, 1, 2, 3, 4, 5, 6, 7, 8, 9, 10, 11, 12, 13, 14, 15], none⟩]
def vf3 : VFun where
  vars := [0]
  boxes := []
  mv := []
  res := [(.t 2)]
  body := (.seq (.region none vf3r0 [0] [0])
 (.seq (.seq (.region none vf3r1 [0, 11] [0, 11])
 (.cond (.t 11) (.region none vf3r2 [0] [0])
 .skip))
 (.seq (.region none vf3r3 [0, 3, 4, 5, 17, 18, 19] [0, 3, 4, 5, 17, 18, 19])
 (.seq (.region none vf3r4 [3, 4, 5, 6, 7, 8, 17, 18, 19, 23, 24, 25] [3, 4, 5, 6, 7, 8, 17, 18, 19, 23, 24, 25])
 (.seq (.region none vf3r5 [2, 41] [2, 41])
 .ret)))))

def vf4r0 : List VOper :=
  [⟨(some 4), .asg (.c (.p (.bool false))), [], none⟩]
def vf4r1 : List VOper :=
  [⟨(some 18), .mv (.t 0), [], none⟩,
   ⟨(some 19), .len true (.t 18), [0], none⟩,
   ⟨(some 20), .bin Go.BinOp.gtr .no (.t 19) (.c (.p (.int Go.IntKind.i64 1000))), [1], none⟩]
def vf4r2 : List VOper :=
  [⟨(some 21), .mv (.t 0), [], none⟩,
   ⟨(some 22), .slc true 1 (.t 21) none (some (.c (.p (.int Go.IntKind.i64 1000)))) none, [0], none⟩,
   ⟨(some 0), .asg (.t 22), [1, 0, 1], none⟩]
def vf4r3 : List VOper :=
  [⟨(some 23), .mv (.t 1), [], none⟩,
   ⟨(some 24), .len true (.t 23), [0], none⟩,
   ⟨(some 25), .bin Go.BinOp.gtr .no (.t 24) (.c (.p (.int Go.IntKind.i64 1000))), [1], none⟩]
def vf4r4 : List VOper :=
  [⟨(some 26), .mv (.t 1), [], none⟩,
   ⟨(some 27), .slc true 1 (.t 26) none (some (.c (.p (.int Go.IntKind.i64 1000)))) none, [0], none⟩,
   ⟨(some 1), .asg (.t 27), [1, 0, 1], none⟩]
def vf4r5 : List VOper :=
  [⟨(some 29), .mv (.t 0), [], none⟩,
   ⟨(some 30), .call 7 [(.t 29)], [0], none⟩,
   ⟨(some 28), .mv (.t 30), [1], none⟩,
   ⟨(some 31), .ext (.t 28) 0, [2], none⟩,
   ⟨(some 32), .ext (.t 28) 1, [2], none⟩,
   ⟨(some 33), .ext (.t 28) 2, [2], none⟩,
   ⟨(some 5), .asg (.t 31), [3, 1, 0, 1, 2, 3], none⟩,
   ⟨(some 6), .asg (.t 32), [4, 6, 0, 1, 2, 3, 4, 6], none⟩,
   ⟨(some 7), .asg (.t 33), [5, 7, 0, 1, 2, 3, 4, 5, 6, 7], none⟩]
def vf4r6 : List VOper :=
  [⟨(some 35), .mv (.t 1), [], none⟩,
   ⟨(some 36), .call 7 [(.t 35)], [0], none⟩,
   ⟨(some 34), .mv (.t 36), [1], none⟩,
   ⟨(some 37), .ext (.t 34) 0, [2], none⟩,
   ⟨(some 38), .ext (.t 34) 1, [2], none⟩,
   ⟨(some 39), .ext (.t 34) 2, [2], none⟩,
   ⟨(some 8), .asg (.t 37), [3, 1, 0, 1, 2, 3], none⟩,
   ⟨(some 9), .asg (.t 38), [4, 6, 0, 1, 2, 3, 4, 6], none⟩,
   ⟨(some 10), .asg (.t 39), [5, 7, 0, 1, 2, 3, 4, 5, 6, 7], none⟩]
def vf4r7 : List VOper :=
  [⟨(some 41), .mv (.t 0), [], none⟩,
   ⟨(some 42), .bin Go.BinOp.add .no (.t 41) (.c (.p (.str [10]))), [0], none⟩,
   ⟨(some 43), .mv (.t 1), [], none⟩,
   ⟨(some 44), .bin Go.BinOp.add .no (.t 42) (.t 43), [1, 2], none⟩,
   ⟨(some 45), .call 7 [(.t 44)], [3], none⟩,
   ⟨(some 40), .mv (.t 45), [4], none⟩,
   ⟨(some 46), .ext (.t 40) 0, [5], none⟩,
   ⟨(some 47), .ext (.t 40) 1, [5], none⟩,
   ⟨(some 48), .ext (.t 40) 2, [5], none⟩,
   ⟨(some 11), .asg (.t 46), [6, 4, 0, 1, 2, 3, 4, 5, 6], none⟩,
   ⟨(some 12), .asg (.t 47), [7, 9, 0, 1, 2, 3, 4, 5, 6, 7, 9], none⟩,
   ⟨(some 13), .asg (.t 48), [8, 10, 0, 1, 2, 3, 4, 5, 6, 7, 8, 9, 10], none⟩]
def vf4r8 : List VOper :=
  [⟨(some 49), .mv (.t 7), [], none⟩,
   ⟨(some 50), .bin Go.BinOp.neq .no (.t 49) (.c (.p (.int Go.IntKind.i64 0))), [0], none⟩]
def vf4r9 : List VOper :=
  [⟨(some 51), .mv (.t 13), [], none⟩,
   ⟨(some 52), .mv (.t 7), [], none⟩,
   ⟨(some 53), .bin Go.BinOp.eql .no (.t 51) (.t 52), [0, 1], none⟩,
   ⟨(some 54), .mv (.t 53), [2], none⟩,
   ⟨(some 55), .mv (.t 11), [3], (some (3, true))⟩,
   ⟨(some 56), .len false (.t 55), [4, 3], (some (3, true))⟩,
   ⟨(some 57), .bin Go.BinOp.eql .no (.t 56) (.c (.p (.int Go.IntKind.i64 0))), [5, 3], (some (3, true))⟩,
   ⟨(some 58), .pick (.t 54) (.t 57) (.c (.p (.bool false))), [3, 6], none⟩,
   ⟨(some 59), .mv (.t 58), [7, 3], none⟩,
   ⟨(some 60), .call 10 [], [8, 8], (some (8, true))⟩,
   ⟨(some 61), .pick (.t 59) (.t 60) (.c (.p (.bool false))), [8, 9], none⟩,
   ⟨(some 4), .asg (.t 61), [10, 9, 0, 1, 2, 3, 4, 5, 6, 7, 8, 9, 10], none⟩]
def vf4r10 : List VOper :=
  [⟨(some 62), .mv (.t 10), [], none⟩,
   ⟨(some 63), .bin Go.BinOp.neq .no (.t 62) (.c (.p (.int Go.IntKind.i64 0))), [0], none⟩]
def vf4r11 : List VOper :=
  [⟨(some 64), .mv (.t 13), [], none⟩,
   ⟨(some 65), .mv (.t 10), [], none⟩,
   ⟨(some 66), .bin Go.BinOp.eql .no (.t 64) (.t 65), [0, 1], none⟩,
   ⟨(some 67), .mv (.t 66), [2], none⟩,
   ⟨(some 68), .mv (.t 12), [3], (some (3, true))⟩,
   ⟨(some 69), .mv (.t 9), [3], (some (3, true))⟩,
   ⟨(some 70), .mv (.t 0), [3], (some (3, true))⟩,
   ⟨(some 71), .len true (.t 70), [6, 3], (some (3, true))⟩,
   ⟨(some 72), .bin Go.BinOp.add .no (.t 69) (.t 71), [5, 7, 3], (some (3, true))⟩,
   ⟨(some 73), .bin Go.BinOp.add .no (.t 72) (.c (.p (.int Go.IntKind.i64 1))), [8, 3], (some (3, true))⟩,
   ⟨(some 74), .bin Go.BinOp.eql .no (.t 68) (.t 73), [4, 9, 3], (some (3, true))⟩,
   ⟨(some 75), .pick (.t 67) (.t 74) (.c (.p (.bool false))), [3, 10], none⟩,
   ⟨(some 76), .mv (.t 75), [11, 3], none⟩,
   ⟨(some 77), .call 10 [], [12, 12], (some (12, true))⟩,
   ⟨(some 78), .pick (.t 76) (.t 77) (.c (.p (.bool false))), [12, 13], none⟩,
   ⟨(some 4), .asg (.t 78), [14, 13, 0, 1, 2, 3, 4, 5, 6, 7, 8, 9, 10, 11, 12, 13, 14], none⟩]
def vf4r12 : List VOper :=
  [⟨(some 79), .mv (.t 13), [], none⟩,
   ⟨(some 80), .bin Go.BinOp.neq .no (.t 79) (.c (.p (.int Go.IntKind.i64 0))), [0], none⟩,
   ⟨(some 81), .mv (.t 80), [1], none⟩,
   ⟨(some 82), .mv (.t 11), [2], (some (2, false))⟩,
   ⟨(some 83), .len false (.t 82), [3, 2], (some (2, false))⟩,
   ⟨(some 84), .mv (.t 5), [2], (some (2, false))⟩,
   ⟨(some 85), .len false (.t 84), [5, 2], (some (2, false))⟩,
   ⟨(some 86), .mv (.t 8), [2], (some (2, false))⟩,
   ⟨(some 87), .len false (.t 86), [7, 2], (some (2, false))⟩,
   ⟨(some 88), .bin Go.BinOp.add .no (.t 85) (.t 87), [6, 8, 2], (some (2, false))⟩,
   ⟨(some 89), .bin Go.BinOp.neq .no (.t 83) (.t 88), [4, 9, 2], (some (2, false))⟩,
   ⟨(some 90), .pick (.t 81) (.c (.p (.bool true))) (.t 89), [2, 10], none⟩]
def vf4r13 : List VOper :=
  [⟨(some 4), .asg (.c (.p (.bool false))), [], none⟩]
def vf4r14 : List VOper :=
  [⟨(some 91), .mv (.t 8), [], none⟩,
   ⟨(some 92), .len false (.t 91), [0], none⟩,
   ⟨(some 93), .mv (.c (.p (.int Go.IntKind.i64 0))), [], none⟩]
def vf4r15 : List VOper :=
  [⟨(some 94), .bin Go.BinOp.lss .no (.t 93) (.t 92), [], none⟩]
def vf4r16 : List VOper :=
  [⟨(some 95), .mv (.t 93), [], none⟩,
   ⟨(some 96), .iaddrS 4 (.t 91) (.t 93), [], none⟩,
   ⟨(some 97), .load (some 4) (.t 96), [1], none⟩,
   ⟨(some 15), .alloc false [(.int Go.IntKind.i64 0), (.str []), (.int Go.IntKind.i64 0), (.int Go.IntKind.i64 0)], [], none⟩,
   ⟨(some 14), .asg (.t 95), [0, 0, 1, 2, 3], none⟩,
   ⟨none, .store 4 (.t 15) (.t 97), [3, 2, 4, 0, 1, 2, 3, 4], none⟩]
def vf4r17 : List VOper :=
  [⟨(some 98), .faddr 3 (.t 15), [], none⟩,
   ⟨(some 99), .load none (.t 98), [0], none⟩,
   ⟨(some 100), .mv (.t 0), [], none⟩,
   ⟨(some 101), .len true (.t 100), [2], none⟩,
   ⟨(some 102), .bin Go.BinOp.add .no (.t 101) (.c (.p (.int Go.IntKind.i64 1))), [3], none⟩,
   ⟨(some 103), .bin Go.BinOp.add .no (.t 99) (.t 102), [1, 4], none⟩,
   ⟨(some 104), .faddr 3 (.t 15), [0, 1, 2, 3, 4, 5], none⟩,
   ⟨none, .store 1 (.t 104) (.t 103), [6, 5, 0, 1, 2, 3, 4, 5], none⟩]
def vf4r18 : List VOper :=
  [⟨(some 105), .mv (.t 11), [], none⟩,
   ⟨(some 106), .mv (.t 5), [], none⟩,
   ⟨(some 107), .len false (.t 106), [1], none⟩,
   ⟨(some 108), .mv (.t 14), [], none⟩,
   ⟨(some 109), .bin Go.BinOp.add .no (.t 107) (.t 108), [2, 3], none⟩,
   ⟨(some 110), .iaddrS 4 (.t 105) (.t 109), [0, 4], none⟩,
   ⟨(some 111), .load (some 4) (.t 110), [5], none⟩,
   ⟨(some 112), .load (some 4) (.t 15), [], none⟩,
   ⟨(some 113), .bin Go.BinOp.neq (.struct [.int, .str, .int, .int]) (.t 111) (.t 112), [6, 7], none⟩]
def vf4r19 : List VOper :=
  [⟨(some 4), .asg (.c (.p (.bool false))), [], none⟩]
def vf4r20 : List VOper :=
  [⟨(some 114), .bin Go.BinOp.add .no (.t 93) (.c (.p (.int Go.IntKind.i64 1))), [], none⟩,
   ⟨(some 93), .mv (.t 114), [0], none⟩]
def vf4r21 : List VOper :=
  [⟨(some 115), .mv (.t 5), [], none⟩,
   ⟨(some 116), .len false (.t 115), [0], none⟩,
   ⟨(some 117), .mv (.c (.p (.int Go.IntKind.i64 0))), [], none⟩]
def vf4r22 : List VOper :=
  [⟨(some 118), .bin Go.BinOp.lss .no (.t 117) (.t 116), [], none⟩]
def vf4r23 : List VOper :=
  [⟨(some 119), .mv (.t 117), [], none⟩,
   ⟨(some 120), .iaddrS 4 (.t 115) (.t 117), [], none⟩,
   ⟨(some 121), .load (some 4) (.t 120), [1], none⟩,
   ⟨(some 17), .alloc false [(.int Go.IntKind.i64 0), (.str []), (.int Go.IntKind.i64 0), (.int Go.IntKind.i64 0)], [], none⟩,
   ⟨(some 16), .asg (.t 119), [0, 0, 1, 2, 3], none⟩,
   ⟨none, .store 4 (.t 17) (.t 121), [3, 2, 4, 0, 1, 2, 3, 4], none⟩]
def vf4r24 : List VOper :=
  [⟨(some 122), .mv (.t 11), [], none⟩,
   ⟨(some 123), .mv (.t 16), [], none⟩,
   ⟨(some 124), .iaddrS 4 (.t 122) (.t 123), [0, 1], none⟩,
   ⟨(some 125), .load (some 4) (.t 124), [2], none⟩,
   ⟨(some 126), .load (some 4) (.t 17), [], none⟩,
   ⟨(some 127), .bin Go.BinOp.neq (.struct [.int, .str, .int, .int]) (.t 125) (.t 126), [3, 4], none⟩]
def vf4r25 : List VOper :=
  [⟨(some 4), .asg (.c (.p (.bool false))), [], none⟩]
def vf4r26 : List VOper :=
  [⟨(some 128), .bin Go.BinOp.add .no (.t 117) (.c (.p (.int Go.IntKind.i64 1))), [], none⟩,
   ⟨(some 117), .mv (.t 128), [0], none⟩]
def vf4r27 : List VOper :=
  [⟨(some 129), .call 10 [], [], none⟩,
   ⟨(some 4), .asg (.t 129), [0, 0, 0], none⟩]
def vf4 : VFun where
  vars := [0, 1]
  boxes := [15, 17]
  mv := []
  res := [(.t 4)]
  body := (.seq (.region none vf4r0 [0, 1] [0, 1])
 (.seq (.seq (.region none vf4r1 [0, 1, 20] [0, 1, 20])
 (.cond (.t 20) (.region none vf4r2 [0, 1] [0, 1])
 .skip))
 (.seq (.seq (.region none vf4r3 [0, 1, 25] [0, 1, 25])
 (.cond (.t 25) (.region none vf4r4 [0, 1] [0, 1])
 .skip))
 (.seq (.region none vf4r5 [0, 1, 5, 7, 31, 33] [0, 1, 5, 7, 31, 33])
 (.seq (.region none vf4r6 [0, 1, 5, 7, 8, 9, 10, 31, 33, 37, 38, 39] [0, 1, 5, 7, 8, 9, 10, 31, 33, 37, 38, 39])
 (.seq (.region none vf4r7 [0, 5, 7, 8, 9, 10, 11, 12, 13, 31, 33, 37, 38, 39, 46, 47, 48] [0, 5, 7, 8, 9, 10, 11, 12, 13, 31, 33, 37, 38, 39, 46, 47, 48])
 (.seq (.seq (.region none vf4r8 [0, 5, 7, 8, 9, 10, 11, 12, 13, 31, 33, 37, 38, 39, 46, 47, 48, 50] [0, 5, 7, 8, 9, 10, 11, 12, 13, 31, 33, 37, 38, 39, 46, 47, 48, 50])
 (.cond (.t 50) (.seq (.region none vf4r9 [4, 61, 78, 129] [4, 61, 78, 129])
 .ret)
 .skip))
 (.seq (.seq (.region none vf4r10 [0, 5, 8, 9, 10, 11, 12, 13, 31, 37, 38, 39, 46, 47, 48, 63] [0, 5, 8, 9, 10, 11, 12, 13, 31, 37, 38, 39, 46, 47, 48, 63])
 (.cond (.t 63) (.seq (.region none vf4r11 [4, 61, 78, 129] [4, 61, 78, 129])
 .ret)
 .skip))
 (.seq (.seq (.region none vf4r12 [0, 5, 8, 11, 31, 37, 46, 90] [0, 5, 8, 11, 31, 37, 46, 90])
 (.cond (.t 90) (.seq (.region none vf4r13 [4, 61, 78, 129] [4, 61, 78, 129])
 .ret)
 .skip))
 (.seq (.seq (.region none vf4r14 [0, 5, 8, 11, 31, 37, 46, 91, 92, 93] [0, 5, 8, 11, 31, 37, 46, 91, 92, 93])
 (.block 0 (.loop (.seq (.region none vf4r15 [0, 5, 8, 11, 31, 37, 46, 91, 92, 93, 94] [0, 5, 8, 11, 31, 37, 46, 91, 92, 93, 94])
 (.seq (.cond (.t 94) .skip
 (.exit 0))
 (.seq (.block 1 (.seq (.region none vf4r16 [0, 5, 8, 11, 14, 15, 31, 37, 46, 91, 92, 93, 95] [0, 5, 8, 11, 14, 15, 31, 37, 46, 91, 92, 93, 95])
 (.seq (.region none vf4r17 [0, 5, 8, 11, 14, 15, 31, 37, 46, 91, 92, 93, 95] [0, 5, 8, 11, 14, 15, 31, 37, 46, 91, 92, 93, 95])
 (.seq (.region (some ([], (.one 0 (.one 1 (.one 2 (.one 3 (.one 4 (.one 5 (.one 6 (.one 7 (.one 8 .fin))))))))))) vf4r18 [0, 5, 8, 11, 31, 37, 46, 91, 92, 93, 113] [0, 5, 8, 11, 31, 37, 46, 91, 92, 93, 113])
 (.cond (.t 113) (.seq (.region none vf4r19 [4, 61, 78, 129] [4, 61, 78, 129])
 .ret)
 .skip)))))
 (.region none vf4r20 [0, 5, 8, 11, 31, 37, 46, 91, 92, 93] [0, 5, 8, 11, 31, 37, 46, 91, 92, 93])))))))
 (.seq (.seq (.region none vf4r21 [5, 11, 31, 46, 115, 116, 117] [5, 11, 31, 46, 115, 116, 117])
 (.block 2 (.loop (.seq (.region none vf4r22 [5, 11, 31, 46, 115, 116, 117, 118] [5, 11, 31, 46, 115, 116, 117, 118])
 (.seq (.cond (.t 118) .skip
 (.exit 2))
 (.seq (.block 3 (.seq (.region none vf4r23 [5, 11, 16, 17, 31, 46, 115, 116, 117, 119] [5, 11, 16, 17, 31, 46, 115, 116, 117, 119])
 (.seq (.region (some ([], (.one 0 (.one 1 (.one 2 (.one 3 (.one 4 (.one 5 .fin)))))))) vf4r24 [5, 11, 31, 46, 115, 116, 117, 127] [5, 11, 31, 46, 115, 116, 117, 127])
 (.cond (.t 127) (.seq (.region none vf4r25 [4, 61, 78, 129] [4, 61, 78, 129])
 .ret)
 .skip))))
 (.region none vf4r26 [5, 11, 31, 46, 115, 116, 117] [5, 11, 31, 46, 115, 116, 117])))))))
 (.seq (.region none vf4r27 [4, 61, 78, 129] [4, 61, 78, 129])
 .ret))))))))))))

def vf5r0 : List VOper :=
  [⟨(some 4), .asg (.c (.p (.bool false))), [], none⟩]
def vf5r1 : List VOper :=
  [⟨(some 5), .asg (.c (.p (.str []))), [], none⟩]
def vf5r2 : List VOper :=
  [⟨(some 6), .asg (.c (.p .nils)), [], none⟩]
def vf5r3 : List VOper :=
  [⟨(some 18), .mv (.t 0), [], none⟩,
   ⟨(some 19), .len false (.t 18), [0], none⟩,
   ⟨(some 20), .mv (.c (.p (.int Go.IntKind.i64 0))), [], none⟩]
def vf5r4 : List VOper :=
  [⟨(some 21), .bin Go.BinOp.lss .no (.t 20) (.t 19), [], none⟩]
def vf5r5 : List VOper :=
  [⟨(some 22), .mv (.t 20), [], none⟩,
   ⟨(some 23), .iaddrS 1 (.t 18) (.t 20), [], none⟩,
   ⟨(some 24), .load none (.t 23), [1], none⟩,
   ⟨(some 7), .asg (.t 22), [0, 0, 1, 2], none⟩,
   ⟨(some 8), .asg (.t 24), [2, 3, 0, 1, 2, 3], none⟩]
def vf5r6 : List VOper :=
  [⟨(some 25), .mv (.t 7), [], none⟩,
   ⟨(some 26), .bin Go.BinOp.geq .no (.t 25) (.c (.p (.int Go.IntKind.i64 30))), [0], none⟩]
def vf5r7 : List VOper :=
  [⟨(some 28), .mv (.t 8), [], none⟩,
   ⟨(some 29), .call 8 [(.t 28)], [0], none⟩,
   ⟨(some 27), .mv (.t 29), [1], none⟩,
   ⟨(some 30), .ext (.t 27) 0, [2], none⟩,
   ⟨(some 31), .ext (.t 27) 1, [2], none⟩,
   ⟨(some 32), .ext (.t 27) 2, [2], none⟩,
   ⟨(some 9), .asg (.t 30), [3, 1, 0, 1, 2, 3], none⟩,
   ⟨(some 10), .asg (.t 31), [4, 6, 0, 1, 2, 3, 4, 6], none⟩,
   ⟨(some 11), .asg (.t 32), [5, 7, 0, 1, 2, 3, 4, 5, 6, 7], none⟩]
def vf5r8 : List VOper :=
  [⟨(some 33), .mv (.t 11), [], none⟩,
   ⟨(some 34), .bin Go.BinOp.neq .no (.t 33) (.c (.p (.int Go.IntKind.i64 0))), [0], none⟩,
   ⟨(some 35), .mv (.t 34), [1], none⟩,
   ⟨(some 36), .mv (.t 9), [2], (some (2, false))⟩,
   ⟨(some 37), .len false (.t 36), [3, 2], (some (2, false))⟩,
   ⟨(some 38), .bin Go.BinOp.neq .no (.t 37) (.c (.p (.int Go.IntKind.i64 1))), [4, 2], (some (2, false))⟩,
   ⟨(some 39), .pick (.t 35) (.c (.p (.bool true))) (.t 38), [2, 5], none⟩,
   ⟨(some 40), .mv (.t 39), [6, 2], none⟩,
   ⟨(some 41), .mv (.t 9), [7], (some (7, false))⟩,
   ⟨(some 42), .iaddrS 4 (.t 41) (.c (.p (.int Go.IntKind.i64 0))), [8, 7], (some (7, false))⟩,
   ⟨(some 43), .faddr 1 (.t 42), [9, 7], (some (7, false))⟩,
   ⟨(some 44), .load none (.t 43), [10, 7], (some (7, false))⟩,
   ⟨(some 45), .mv (.t 8), [7], (some (7, false))⟩,
   ⟨(some 46), .bin Go.BinOp.neq .no (.t 44) (.t 45), [11, 12, 7], (some (7, false))⟩,
   ⟨(some 47), .pick (.t 40) (.c (.p (.bool true))) (.t 46), [7, 13], none⟩]
def vf5r9 : List VOper :=
  [⟨(some 12), .asg (.c (.p (.int Go.IntKind.i64 0))), [], none⟩]
def vf5r10 : List VOper :=
  [⟨(some 48), .mv (.t 7), [], none⟩,
   ⟨(some 49), .mv (.t 1), [], none⟩,
   ⟨(some 50), .len false (.t 49), [1], none⟩,
   ⟨(some 51), .bin Go.BinOp.lss .no (.t 48) (.t 50), [0, 2], none⟩]
def vf5r11 : List VOper :=
  [⟨(some 52), .mv (.t 1), [], none⟩,
   ⟨(some 53), .mv (.t 7), [], none⟩,
   ⟨(some 54), .iaddrS 1 (.t 52) (.t 53), [0, 1], none⟩,
   ⟨(some 55), .load none (.t 54), [2], none⟩,
   ⟨(some 56), .bin Go.BinOp.and .no (.t 55) (.c (.p (.int Go.IntKind.i64 3))), [3], none⟩,
   ⟨(some 12), .asg (.t 56), [4, 0, 1, 2, 3, 4], none⟩]
def vf5r12 : List VOper :=
  [⟨(some 57), .mv (.t 5), [], none⟩,
   ⟨(some 58), .mv (.t 8), [], none⟩,
   ⟨(some 59), .lit 1 [(.str [])] 4 [(0, (.c (.p (.str [32])))), (1, (.c (.p (.str [9, 32, 13])))), (2, (.c (.p (.str [35, 32, 120, 32, 59, 32, 57, 97, 10])))), (3, (.c (.p (.str [10, 10]))))], [], none⟩,
   ⟨(some 60), .mv (.t 12), [], none⟩,
   ⟨(some 61), .iaddrS 1 (.t 59) (.t 60), [2, 3], none⟩,
   ⟨(some 62), .load none (.t 61), [4], none⟩,
   ⟨(some 63), .bin Go.BinOp.add .no (.t 58) (.t 62), [1, 5], none⟩,
   ⟨(some 64), .bin Go.BinOp.add .no (.t 57) (.t 63), [0, 6], none⟩,
   ⟨(some 5), .asg (.t 64), [7, 0, 1, 2, 3, 4, 5, 6, 7], none⟩]
def vf5r13 : List VOper :=
  [⟨(some 65), .mv (.t 6), [], none⟩,
   ⟨(some 66), .mv (.t 8), [], none⟩,
   ⟨(some 67), .lit 1 [(.str [])] 1 [(0, (.t 66))], [1], none⟩,
   ⟨(some 68), .append false 1 16 (.t 65) (.t 67), [0, 2], none⟩,
   ⟨(some 6), .asg (.t 68), [3, 3, 0, 1, 2, 3], none⟩]
def vf5r14 : List VOper :=
  [⟨(some 69), .bin Go.BinOp.add .no (.t 20) (.c (.p (.int Go.IntKind.i64 1))), [], none⟩,
   ⟨(some 20), .mv (.t 69), [0], none⟩]
def vf5r15 : List VOper :=
  [⟨(some 71), .mv (.t 5), [], none⟩,
   ⟨(some 72), .call 7 [(.t 71)], [0], none⟩,
   ⟨(some 70), .mv (.t 72), [1], none⟩,
   ⟨(some 73), .ext (.t 70) 0, [2], none⟩,
   ⟨(some 74), .ext (.t 70) 1, [2], none⟩,
   ⟨(some 75), .ext (.t 70) 2, [2], none⟩,
   ⟨(some 13), .asg (.t 73), [3, 1, 0, 1, 2, 3], none⟩,
   ⟨(some 14), .asg (.t 74), [4, 6, 0, 1, 2, 3, 4, 6], none⟩,
   ⟨(some 15), .asg (.t 75), [5, 7, 0, 1, 2, 3, 4, 5, 6, 7], none⟩]
def vf5r16 : List VOper :=
  [⟨(some 76), .mv (.t 15), [], none⟩,
   ⟨(some 77), .bin Go.BinOp.neq .no (.t 76) (.c (.p (.int Go.IntKind.i64 0))), [0], none⟩,
   ⟨(some 78), .mv (.t 77), [1], none⟩,
   ⟨(some 79), .mv (.t 13), [2], (some (2, false))⟩,
   ⟨(some 80), .len false (.t 79), [3, 2], (some (2, false))⟩,
   ⟨(some 81), .mv (.t 6), [2], (some (2, false))⟩,
   ⟨(some 82), .len false (.t 81), [5, 2], (some (2, false))⟩,
   ⟨(some 83), .bin Go.BinOp.neq .no (.t 80) (.t 82), [4, 6, 2], (some (2, false))⟩,
   ⟨(some 84), .pick (.t 78) (.c (.p (.bool true))) (.t 83), [2, 7], none⟩]
def vf5r17 : List VOper :=
  [⟨(some 4), .asg (.c (.p (.bool false))), [], none⟩]
def vf5r18 : List VOper :=
  [⟨(some 85), .mv (.t 13), [], none⟩,
   ⟨(some 86), .len false (.t 85), [0], none⟩,
   ⟨(some 87), .mv (.c (.p (.int Go.IntKind.i64 0))), [], none⟩]
def vf5r19 : List VOper :=
  [⟨(some 88), .bin Go.BinOp.lss .no (.t 87) (.t 86), [], none⟩]
def vf5r20 : List VOper :=
  [⟨(some 89), .mv (.t 87), [], none⟩,
   ⟨(some 90), .iaddrS 4 (.t 85) (.t 87), [], none⟩,
   ⟨(some 91), .load (some 4) (.t 90), [1], none⟩,
   ⟨(some 17), .alloc false [(.int Go.IntKind.i64 0), (.str []), (.int Go.IntKind.i64 0), (.int Go.IntKind.i64 0)], [], none⟩,
   ⟨(some 16), .asg (.t 89), [0, 0, 1, 2, 3], none⟩,
   ⟨none, .store 4 (.t 17) (.t 91), [3, 2, 4, 0, 1, 2, 3, 4], none⟩]
def vf5r21 : List VOper :=
  [⟨(some 92), .faddr 1 (.t 17), [], none⟩,
   ⟨(some 93), .load none (.t 92), [0], none⟩,
   ⟨(some 94), .mv (.t 6), [], none⟩,
   ⟨(some 95), .mv (.t 16), [], none⟩,
   ⟨(some 96), .iaddrS 1 (.t 94) (.t 95), [2, 3], none⟩,
   ⟨(some 97), .load none (.t 96), [4], none⟩,
   ⟨(some 98), .bin Go.BinOp.neq .no (.t 93) (.t 97), [1, 5], none⟩]
def vf5r22 : List VOper :=
  [⟨(some 4), .asg (.c (.p (.bool false))), [], none⟩]
def vf5r23 : List VOper :=
  [⟨(some 99), .bin Go.BinOp.add .no (.t 87) (.c (.p (.int Go.IntKind.i64 1))), [], none⟩,
   ⟨(some 87), .mv (.t 99), [0], none⟩]
def vf5r24 : List VOper :=
  [⟨(some 100), .call 10 [], [], none⟩,
   ⟨(some 4), .asg (.t 100), [0, 0, 0], none⟩]
def vf5 : VFun where
  vars := [0, 1]
  boxes := [17]
  mv := []
  res := [(.t 4)]
  body := (.seq (.region none vf5r0 [0, 1] [0, 1])
 (.seq (.region none vf5r1 [0, 1, 5] [0, 1, 5])
 (.seq (.region none vf5r2 [0, 1, 5, 6, 68] [0, 1, 5, 6, 68])
 (.seq (.seq (.region none vf5r3 [0, 1, 5, 6, 18, 19, 20, 68] [0, 1, 5, 6, 18, 19, 20, 68])
 (.block 0 (.loop (.seq (.region none vf5r4 [0, 1, 5, 6, 18, 19, 20, 21, 68] [0, 1, 5, 6, 18, 19, 20, 21, 68])
 (.seq (.cond (.t 21) .skip
 (.exit 0))
 (.seq (.block 1 (.seq (.region none vf5r5 [0, 1, 5, 6, 7, 8, 18, 19, 20, 22, 24, 68] [0, 1, 5, 6, 7, 8, 18, 19, 20, 22, 24, 68])
 (.seq (.seq (.region none vf5r6 [0, 1, 5, 6, 7, 8, 18, 19, 20, 22, 24, 26, 68] [0, 1, 5, 6, 7, 8, 18, 19, 20, 22, 24, 26, 68])
 (.cond (.t 26) (.exit 0)
 .skip))
 (.seq (.region none vf5r7 [0, 1, 5, 6, 7, 8, 9, 11, 18, 19, 20, 22, 24, 30, 32, 68] [0, 1, 5, 6, 7, 8, 9, 11, 18, 19, 20, 22, 24, 30, 32, 68])
 (.seq (.seq (.region none vf5r8 [0, 1, 5, 6, 7, 8, 18, 19, 20, 22, 24, 47, 68] [0, 1, 5, 6, 7, 8, 18, 19, 20, 22, 24, 47, 68])
 (.cond (.t 47) (.exit 1)
 .skip))
 (.seq (.region none vf5r9 [0, 1, 5, 6, 7, 8, 12, 18, 19, 20, 22, 24, 68] [0, 1, 5, 6, 7, 8, 12, 18, 19, 20, 22, 24, 68])
 (.seq (.seq (.region none vf5r10 [0, 1, 5, 6, 7, 8, 12, 18, 19, 20, 22, 24, 51, 68] [0, 1, 5, 6, 7, 8, 12, 18, 19, 20, 22, 24, 51, 68])
 (.cond (.t 51) (.region none vf5r11 [0, 1, 5, 6, 8, 12, 18, 19, 20, 24, 68] [0, 1, 5, 6, 8, 12, 18, 19, 20, 24, 68])
 .skip))
 (.seq (.region none vf5r12 [0, 1, 5, 6, 8, 18, 19, 20, 24, 68] [0, 1, 5, 6, 8, 18, 19, 20, 24, 68])
 (.region none vf5r13 [0, 1, 5, 6, 18, 19, 20, 68] [0, 1, 5, 6, 18, 19, 20, 68])))))))))
 (.region none vf5r14 [0, 1, 5, 6, 18, 19, 20, 68] [0, 1, 5, 6, 18, 19, 20, 68])))))))
 (.seq (.region none vf5r15 [6, 13, 15, 68, 73, 75] [6, 13, 15, 68, 73, 75])
 (.seq (.seq (.region none vf5r16 [6, 13, 68, 73, 84] [6, 13, 68, 73, 84])
 (.cond (.t 84) (.seq (.region none vf5r17 [4, 100] [4, 100])
 .ret)
 .skip))
 (.seq (.seq (.region none vf5r18 [6, 13, 68, 73, 85, 86, 87] [6, 13, 68, 73, 85, 86, 87])
 (.block 2 (.loop (.seq (.region none vf5r19 [6, 13, 68, 73, 85, 86, 87, 88] [6, 13, 68, 73, 85, 86, 87, 88])
 (.seq (.cond (.t 88) .skip
 (.exit 2))
 (.seq (.block 3 (.seq (.region none vf5r20 [6, 13, 16, 17, 68, 73, 85, 86, 87, 89] [6, 13, 16, 17, 68, 73, 85, 86, 87, 89])
 (.seq (.region (some ([], (.one 0 (.one 1 (.one 2 (.one 3 (.one 4 (.one 5 (.one 6 .fin))))))))) vf5r21 [6, 13, 68, 73, 85, 86, 87, 98] [6, 13, 68, 73, 85, 86, 87, 98])
 (.cond (.t 98) (.seq (.region none vf5r22 [4, 100] [4, 100])
 .ret)
 .skip))))
 (.region none vf5r23 [6, 13, 68, 73, 85, 86, 87] [6, 13, 68, 73, 85, 86, 87])))))))
 (.seq (.region none vf5r24 [4, 100] [4, 100])
 .ret))))))))

def vf7r0 : List VOper :=
  [⟨(some 2), .asg (.c (.p .nils)), [], none⟩,
   ⟨(some 3), .asg (.c (.p (.int Go.IntKind.i64 0))), [0], none⟩,
   ⟨(some 4), .asg (.c (.p (.int Go.IntKind.i64 0))), [1], none⟩]
def vf7r1 : List VOper :=
  [⟨(some 9), .mv (.t 0), [], none⟩,
   ⟨(some 10), .len true (.t 9), [0], none⟩,
   ⟨(some 11), .bin Go.BinOp.gtr .no (.t 10) (.c (.p (.int Go.IntKind.i64 4096))), [1], none⟩]
def vf7r2 : List VOper :=
  [⟨(some 2), .asg (.c (.p .nils)), [], none⟩,
   ⟨(some 3), .asg (.c (.p (.int Go.IntKind.i64 0))), [0, 0], none⟩,
   ⟨(some 4), .asg (.c (.p (.int Go.IntKind.i64 6))), [1, 0, 1], none⟩]
def vf7r3 : List VOper :=
  [⟨(some 5), .asg (.c (.p .nils)), [], none⟩]
def vf7r4 : List VOper :=
  [⟨(some 12), .mv (.t 0), [], none⟩,
   ⟨(some 13), .call 13 [(.t 12), (.c (.p (.int Go.IntKind.i64 0)))], [0], none⟩,
   ⟨(some 6), .asg (.t 13), [1, 1, 0, 1], none⟩]
def vf7r5 : List VOper :=
  [⟨(some 14), .mv (.t 6), [], none⟩,
   ⟨(some 15), .mv (.t 0), [], none⟩,
   ⟨(some 16), .len true (.t 15), [1], none⟩,
   ⟨(some 17), .bin Go.BinOp.lss .no (.t 14) (.t 16), [0, 2], none⟩]
def vf7r6 : List VOper :=
  [⟨(some 22), .mv (.t 0), [], none⟩,
   ⟨(some 23), .mv (.t 6), [], none⟩,
   ⟨(some 24), .slc true 1 (.t 22) (some (.t 23)) none none, [0, 1], none⟩,
   ⟨(some 25), .call 14 [(.t 24)], [2], none⟩,
   ⟨(some 21), .mv (.t 25), [3], none⟩,
   ⟨(some 26), .ext (.t 21) 0, [4], none⟩,
   ⟨(some 27), .ext (.t 21) 1, [4], none⟩,
   ⟨(some 7), .alloc false [(.int Go.IntKind.i64 0), (.str []), (.int Go.IntKind.i64 0), (.int Go.IntKind.i64 0)], [], none⟩,
   ⟨none, .store 4 (.t 7) (.t 26), [7, 5, 3, 0, 1, 2, 3, 4, 5, 7], none⟩,
   ⟨(some 8), .asg (.t 27), [6, 8, 0, 1, 2, 3, 4, 5, 6, 7, 8], none⟩]
def vf7r7 : List VOper :=
  [⟨(some 28), .mv (.t 8), [], none⟩,
   ⟨(some 29), .bin Go.BinOp.neq .no (.t 28) (.c (.p (.int Go.IntKind.i64 0))), [0], none⟩]
def vf7r8 : List VOper :=
  [⟨(some 30), .mv (.t 6), [], none⟩,
   ⟨(some 31), .mv (.t 8), [], none⟩,
   ⟨(some 2), .asg (.c (.p .nils)), [], none⟩,
   ⟨(some 3), .asg (.t 30), [0, 2, 0, 2], none⟩,
   ⟨(some 4), .asg (.t 31), [1, 3, 0, 1, 2, 3], none⟩]
def vf7r9 : List VOper :=
  [⟨(some 32), .mv (.t 6), [], none⟩,
   ⟨(some 33), .faddr 3 (.t 7), [0], none⟩,
   ⟨none, .store 1 (.t 33) (.t 32), [1, 0, 0], none⟩]
def vf7r10 : List VOper :=
  [⟨(some 34), .mv (.t 6), [], none⟩,
   ⟨(some 35), .faddr 1 (.t 7), [], none⟩,
   ⟨(some 36), .load none (.t 35), [1], none⟩,
   ⟨(some 37), .len true (.t 36), [2], none⟩,
   ⟨(some 38), .bin Go.BinOp.add .no (.t 34) (.t 37), [0, 3], none⟩,
   ⟨(some 6), .asg (.t 38), [4, 0, 1, 2, 3, 4], none⟩]
def vf7r11 : List VOper :=
  [⟨(some 39), .mv (.t 5), [], none⟩,
   ⟨(some 40), .load (some 4) (.t 7), [], none⟩,
   ⟨(some 41), .lit 4 [(.int Go.IntKind.i64 0), (.str []), (.int Go.IntKind.i64 0), (.int Go.IntKind.i64 0)] 1 [(0, (.t 40))], [1], none⟩,
   ⟨(some 42), .append false 4 40 (.t 39) (.t 41), [0, 2], none⟩,
   ⟨(some 5), .asg (.t 42), [3, 3, 0, 1, 2, 3], none⟩]
def vf7r12 : List VOper :=
  [⟨(some 18), .mv (.t 0), [], none⟩,
   ⟨(some 19), .mv (.t 6), [], none⟩,
   ⟨(some 20), .call 13 [(.t 18), (.t 19)], [0, 1], none⟩,
   ⟨(some 6), .asg (.t 20), [2, 2, 0, 1, 2], none⟩]
def vf7r13 : List VOper :=
  [⟨(some 43), .mv (.t 5), [], none⟩,
   ⟨(some 2), .asg (.t 43), [0, 0], none⟩,
   ⟨(some 3), .asg (.c (.p (.int Go.IntKind.i64 0))), [1, 0, 1], none⟩,
   ⟨(some 4), .asg (.c (.p (.int Go.IntKind.i64 0))), [2, 0, 1, 2], none⟩]
def vf7 : VFun where
  vars := [0]
  boxes := [7]
  mv := []
  res := [(.t 2), (.t 3), (.t 4)]
  body := (.seq (.region none vf7r0 [0] [0])
 (.seq (.seq (.region none vf7r1 [0, 11] [0, 11])
 (.cond (.t 11) (.seq (.region none vf7r2 [2, 3, 4, 5, 6, 8, 13, 20, 27, 30, 31, 42, 43] [2, 3, 4, 5, 6, 8, 13, 20, 27, 30, 31, 42, 43])
 .ret)
 .skip))
 (.seq (.region none vf7r3 [0, 5, 42] [0, 5, 42])
 (.seq (.seq (.region none vf7r4 [0, 5, 6, 13, 20, 42] [0, 5, 6, 13, 20, 42])
 (.block 0 (.loop (.seq (.seq (.region none vf7r5 [0, 5, 6, 13, 17, 20, 42] [0, 5, 6, 13, 17, 20, 42])
 (.cond (.t 17) .skip
 (.exit 0)))
 (.seq (.block 1 (.seq (.region none vf7r6 [0, 5, 6, 7, 8, 13, 20, 27, 42] [0, 5, 6, 7, 8, 13, 20, 27, 42])
 (.seq (.seq (.region none vf7r7 [0, 5, 6, 7, 8, 13, 20, 27, 29, 42] [0, 5, 6, 7, 8, 13, 20, 27, 29, 42])
 (.cond (.t 29) (.seq (.region none vf7r8 [2, 3, 4, 5, 6, 8, 13, 20, 27, 30, 31, 42, 43] [2, 3, 4, 5, 6, 8, 13, 20, 27, 30, 31, 42, 43])
 .ret)
 .skip))
 (.seq (.region none vf7r9 [0, 5, 6, 7, 13, 20, 42] [0, 5, 6, 7, 13, 20, 42])
 (.seq (.region none vf7r10 [0, 5, 6, 7, 13, 20, 42] [0, 5, 6, 7, 13, 20, 42])
 (.region none vf7r11 [0, 5, 6, 13, 20, 42] [0, 5, 6, 13, 20, 42]))))))
 (.region none vf7r12 [0, 5, 6, 13, 20, 42] [0, 5, 6, 13, 20, 42]))))))
 (.seq (.region none vf7r13 [2, 3, 4, 5, 6, 8, 13, 20, 27, 30, 31, 42, 43] [2, 3, 4, 5, 6, 8, 13, 20, 27, 30, 31, 42, 43])
 .ret)))))

def vf8r0 : List VOper :=
  [⟨(some 2), .asg (.c (.p .nils)), [], none⟩,
   ⟨(some 3), .asg (.c (.p (.int Go.IntKind.i64 0))), [0], none⟩,
   ⟨(some 4), .asg (.c (.p (.int Go.IntKind.i64 0))), [1], none⟩]
def vf8r1 : List VOper :=
  [⟨(some 12), .mv (.t 0), [], none⟩,
   ⟨(some 13), .len true (.t 12), [0], none⟩,
   ⟨(some 14), .bin Go.BinOp.gtr .no (.t 13) (.c (.p (.int Go.IntKind.i64 4096))), [1], none⟩]
def vf8r2 : List VOper :=
  [⟨(some 2), .asg (.c (.p .nils)), [], none⟩,
   ⟨(some 3), .asg (.c (.p (.int Go.IntKind.i64 0))), [0, 0], none⟩,
   ⟨(some 4), .asg (.c (.p (.int Go.IntKind.i64 6))), [1, 0, 1], none⟩]
def vf8r3 : List VOper :=
  [⟨(some 15), .mv (.t 0), [], none⟩,
   ⟨(some 16), .call 15 [(.t 15)], [0], none⟩,
   ⟨(some 0), .asg (.t 16), [1, 1, 0, 1], none⟩]
def vf8r4 : List VOper :=
  [⟨(some 5), .asg (.c (.p .nils)), [], none⟩]
def vf8r5 : List VOper :=
  [⟨(some 6), .asg (.c (.p (.int Go.IntKind.i64 0))), [], none⟩]
def vf8r6 : List VOper :=
  [⟨(some 17), .mv (.t 6), [], none⟩,
   ⟨(some 18), .mv (.t 0), [], none⟩,
   ⟨(some 19), .len true (.t 18), [1], none⟩,
   ⟨(some 20), .bin Go.BinOp.lss .no (.t 17) (.t 19), [0, 2], none⟩]
def vf8r7 : List VOper :=
  [⟨(some 21), .mv (.t 0), [], none⟩,
   ⟨(some 22), .mv (.t 6), [], none⟩,
   ⟨(some 23), .idxS (.t 21) (.t 22), [0, 1], none⟩,
   ⟨(some 24), .call 16 [(.t 23), (.c (.p (.str [32, 9, 10, 13])))], [2], none⟩]
def vf8r8 : List VOper :=
  [⟨(some 25), .mv (.t 6), [], none⟩,
   ⟨(some 26), .bin Go.BinOp.add .no (.t 25) (.c (.p (.int Go.IntKind.i64 1))), [0], none⟩,
   ⟨(some 6), .asg (.t 26), [1, 0, 1], none⟩]
def vf8r9 : List VOper :=
  [⟨(some 27), .mv (.t 6), [], none⟩,
   ⟨(some 28), .bin Go.BinOp.add .no (.t 27) (.c (.p (.int Go.IntKind.i64 1))), [0], none⟩,
   ⟨(some 29), .mv (.t 0), [], none⟩,
   ⟨(some 30), .len true (.t 29), [2], none⟩,
   ⟨(some 31), .bin Go.BinOp.lss .no (.t 28) (.t 30), [1, 3], none⟩,
   ⟨(some 32), .mv (.t 31), [4], none⟩,
   ⟨(some 33), .mv (.t 0), [5], (some (5, true))⟩,
   ⟨(some 34), .mv (.t 6), [5], (some (5, true))⟩,
   ⟨(some 35), .mv (.t 6), [5], (some (5, true))⟩,
   ⟨(some 36), .bin Go.BinOp.add .no (.t 35) (.c (.p (.int Go.IntKind.i64 2))), [8, 5], (some (5, true))⟩,
   ⟨(some 37), .slc true 1 (.t 33) (some (.t 34)) (some (.t 36)) none, [6, 7, 9, 5], (some (5, true))⟩,
   ⟨(some 38), .bin Go.BinOp.eql .no (.t 37) (.c (.p (.str [45, 62]))), [10, 5], (some (5, true))⟩,
   ⟨(some 39), .pick (.t 32) (.t 38) (.c (.p (.bool false))), [5, 11], none⟩]
def vf8r10 : List VOper :=
  [⟨(some 40), .mv (.t 5), [], none⟩,
   ⟨(some 41), .mv (.t 6), [], none⟩,
   ⟨(some 42), .build [(.p (.int Go.IntKind.i64 0)), (.p (.str [])), (.p (.int Go.IntKind.i64 0)), (.p (.int Go.IntKind.i64 0))] [(0, 1, (.c (.p (.int Go.IntKind.i64 3)))), (1, 1, (.c (.p (.str [45, 62])))), (3, 1, (.t 41))], [1], none⟩,
   ⟨(some 43), .lit 4 [(.int Go.IntKind.i64 0), (.str []), (.int Go.IntKind.i64 0), (.int Go.IntKind.i64 0)] 1 [(0, (.t 42))], [2], none⟩,
   ⟨(some 44), .append false 4 40 (.t 40) (.t 43), [0, 3], none⟩,
   ⟨(some 5), .asg (.t 44), [4, 4, 0, 1, 2, 3, 4], none⟩]
def vf8r11 : List VOper :=
  [⟨(some 45), .mv (.t 6), [], none⟩,
   ⟨(some 46), .bin Go.BinOp.add .no (.t 45) (.c (.p (.int Go.IntKind.i64 2))), [0], none⟩,
   ⟨(some 6), .asg (.t 46), [1, 0, 1], none⟩]
def vf8r12 : List VOper :=
  [⟨(some 47), .mv (.t 0), [], none⟩,
   ⟨(some 48), .mv (.t 6), [], none⟩,
   ⟨(some 49), .idxS (.t 47) (.t 48), [0, 1], none⟩,
   ⟨(some 50), .call 16 [(.t 49), (.c (.p (.str [61, 44, 59, 38, 33, 58, 45])))], [2], none⟩]
def vf8r13 : List VOper :=
  [⟨(some 51), .mv (.t 5), [], none⟩,
   ⟨(some 52), .mv (.t 0), [], none⟩,
   ⟨(some 53), .mv (.t 6), [], none⟩,
   ⟨(some 54), .mv (.t 6), [], none⟩,
   ⟨(some 55), .bin Go.BinOp.add .no (.t 54) (.c (.p (.int Go.IntKind.i64 1))), [3], none⟩,
   ⟨(some 56), .slc true 1 (.t 52) (some (.t 53)) (some (.t 55)) none, [1, 2, 4], none⟩,
   ⟨(some 57), .mv (.t 6), [], none⟩,
   ⟨(some 58), .build [(.p (.int Go.IntKind.i64 0)), (.p (.str [])), (.p (.int Go.IntKind.i64 0)), (.p (.int Go.IntKind.i64 0))] [(0, 1, (.c (.p (.int Go.IntKind.i64 3)))), (1, 1, (.t 56)), (3, 1, (.t 57))], [5, 6], none⟩,
   ⟨(some 59), .lit 4 [(.int Go.IntKind.i64 0), (.str []), (.int Go.IntKind.i64 0), (.int Go.IntKind.i64 0)] 1 [(0, (.t 58))], [7], none⟩,
   ⟨(some 60), .append false 4 40 (.t 51) (.t 59), [0, 8], none⟩,
   ⟨(some 5), .asg (.t 60), [9, 9, 0, 1, 2, 3, 4, 5, 6, 7, 8, 9], none⟩]
def vf8r14 : List VOper :=
  [⟨(some 61), .mv (.t 6), [], none⟩,
   ⟨(some 62), .bin Go.BinOp.add .no (.t 61) (.c (.p (.int Go.IntKind.i64 1))), [0], none⟩,
   ⟨(some 6), .asg (.t 62), [1, 0, 1], none⟩]
def vf8r15 : List VOper :=
  [⟨(some 63), .mv (.t 6), [], none⟩,
   ⟨(some 7), .asg (.t 63), [0, 0], none⟩]
def vf8r16 : List VOper :=
  [⟨(some 8), .asg (.c (.p (.bool true))), [], none⟩]
def vf8r17 : List VOper :=
  [⟨(some 64), .mv (.t 7), [], none⟩,
   ⟨(some 65), .mv (.t 0), [], none⟩,
   ⟨(some 66), .len true (.t 65), [1], none⟩,
   ⟨(some 67), .bin Go.BinOp.lss .no (.t 64) (.t 66), [0, 2], none⟩,
   ⟨(some 68), .mv (.t 67), [3], none⟩,
   ⟨(some 69), .mv (.t 0), [4], (some (4, true))⟩,
   ⟨(some 70), .mv (.t 7), [4], (some (4, true))⟩,
   ⟨(some 71), .idxS (.t 69) (.t 70), [5, 6, 4], (some (4, true))⟩,
   ⟨(some 72), .call 16 [(.t 71), (.c (.p (.str [97, 98, 99, 100, 101, 102, 103, 104, 105, 106, 107, 108, 109, 110, 111, 112, 113, 114, 115, 116, 117, 118, 119, 120, 121, 122])))], [7, 4, 4], (some (4, true))⟩,
   ⟨(some 73), .mv (.t 72), [8, 8, 4], (some (4, true))⟩,
   ⟨(some 74), .mv (.t 0), [9], (some (9, false))⟩,
   ⟨(some 75), .mv (.t 7), [9], (some (9, false))⟩,
   ⟨(some 76), .idxS (.t 74) (.t 75), [10, 11, 9], (some (9, false))⟩,
   ⟨(some 77), .call 16 [(.t 76), (.c (.p (.str [48, 49, 50, 51, 52, 53, 54, 55, 56, 57])))], [12, 9, 9], (some (9, false))⟩,
   ⟨(some 78), .pick (.t 73) (.c (.p (.bool true))) (.t 77), [9, 13, 4], (some (4, true))⟩,
   ⟨(some 79), .pick (.t 68) (.t 78) (.c (.p (.bool false))), [4, 14], none⟩]
def vf8r18 : List VOper :=
  [⟨(some 80), .mv (.t 8), [], none⟩,
   ⟨(some 81), .mv (.t 80), [0], none⟩,
   ⟨(some 82), .mv (.t 0), [1], (some (1, true))⟩,
   ⟨(some 83), .mv (.t 7), [1], (some (1, true))⟩,
   ⟨(some 84), .idxS (.t 82) (.t 83), [2, 3, 1], (some (1, true))⟩,
   ⟨(some 85), .call 16 [(.t 84), (.c (.p (.str [48, 49, 50, 51, 52, 53, 54, 55, 56, 57])))], [4, 1, 1], (some (1, true))⟩,
   ⟨(some 86), .pick (.t 81) (.t 85) (.c (.p (.bool false))), [1, 5], none⟩,
   ⟨(some 8), .asg (.t 86), [6, 5, 0, 1, 2, 3, 4, 5, 6], none⟩]
def vf8r19 : List VOper :=
  [⟨(some 87), .mv (.t 7), [], none⟩,
   ⟨(some 88), .bin Go.BinOp.add .no (.t 87) (.c (.p (.int Go.IntKind.i64 1))), [0], none⟩,
   ⟨(some 7), .asg (.t 88), [1, 0, 1], none⟩]
def vf8r20 : List VOper :=
  [⟨(some 89), .mv (.t 0), [], none⟩,
   ⟨(some 90), .mv (.t 6), [], none⟩,
   ⟨(some 91), .mv (.t 7), [], none⟩,
   ⟨(some 92), .slc true 1 (.t 89) (some (.t 90)) (some (.t 91)) none, [0, 1, 2], none⟩,
   ⟨(some 9), .asg (.t 92), [3, 0, 1, 2, 3], none⟩]
def vf8r21 : List VOper :=
  [⟨(some 93), .mv (.t 9), [], none⟩,
   ⟨(some 94), .len true (.t 93), [0], none⟩,
   ⟨(some 95), .bin Go.BinOp.eql .no (.t 94) (.c (.p (.int Go.IntKind.i64 0))), [1], none⟩,
   ⟨(some 96), .mv (.t 95), [2], none⟩,
   ⟨(some 97), .mv (.t 8), [3], (some (3, false))⟩,
   ⟨(some 98), .un Go.UnOp.not (.t 97), [4, 3], (some (3, false))⟩,
   ⟨(some 99), .mv (.t 98), [5, 3, 3], (some (3, false))⟩,
   ⟨(some 100), .mv (.t 9), [6], (some (6, true))⟩,
   ⟨(some 101), .idxS (.t 100) (.c (.p (.int Go.IntKind.i64 0))), [7, 6], (some (6, true))⟩,
   ⟨(some 102), .call 16 [(.t 101), (.c (.p (.str [48, 49, 50, 51, 52, 53, 54, 55, 56, 57])))], [8, 6, 6], (some (6, true))⟩,
   ⟨(some 103), .pick (.t 99) (.t 102) (.c (.p (.bool false))), [6, 9, 3], (some (3, false))⟩,
   ⟨(some 104), .pick (.t 96) (.c (.p (.bool true))) (.t 103), [3, 10], none⟩,
   ⟨(some 105), .mv (.t 104), [11, 9], none⟩,
   ⟨(some 106), .mv (.t 8), [12], (some (12, false))⟩,
   ⟨(some 107), .mv (.t 106), [13, 12, 12], (some (12, false))⟩,
   ⟨(some 108), .mv (.t 9), [14], (some (14, true))⟩,
   ⟨(some 109), .len true (.t 108), [15, 14], (some (14, true))⟩,
   ⟨(some 110), .bin Go.BinOp.gtr .no (.t 109) (.c (.p (.int Go.IntKind.i64 1))), [16, 14], (some (14, true))⟩,
   ⟨(some 111), .pick (.t 107) (.t 110) (.c (.p (.bool false))), [14, 17, 12], (some (12, false))⟩,
   ⟨(some 112), .mv (.t 111), [18, 14, 12], (some (12, false))⟩,
   ⟨(some 113), .mv (.t 9), [19], (some (19, true))⟩,
   ⟨(some 114), .len true (.t 113), [20, 19], (some (19, true))⟩,
   ⟨(some 115), .bin Go.BinOp.lss .no (.t 114) (.c (.p (.int Go.IntKind.i64 7))), [21, 19], (some (19, true))⟩,
   ⟨(some 116), .pick (.t 112) (.t 115) (.c (.p (.bool false))), [19, 22, 12], (some (12, false))⟩,
   ⟨(some 117), .mv (.t 116), [23, 19, 12], (some (12, false))⟩,
   ⟨(some 118), .mv (.t 9), [24], (some (24, true))⟩,
   ⟨(some 119), .idxS (.t 118) (.c (.p (.int Go.IntKind.i64 0))), [25, 24], (some (24, true))⟩,
   ⟨(some 120), .bin Go.BinOp.eql .no (.t 119) (.c (.p (.int Go.IntKind.u8 48))), [26, 24], (some (24, true))⟩,
   ⟨(some 121), .pick (.t 117) (.t 120) (.c (.p (.bool false))), [24, 27, 12], (some (12, false))⟩,
   ⟨(some 122), .pick (.t 105) (.c (.p (.bool true))) (.t 121), [12, 28], none⟩]
def vf8r22 : List VOper :=
  [⟨(some 123), .mv (.t 6), [], none⟩,
   ⟨(some 2), .asg (.c (.p .nils)), [], none⟩,
   ⟨(some 3), .asg (.t 123), [0, 1, 0, 1], none⟩,
   ⟨(some 4), .asg (.c (.p (.int Go.IntKind.i64 20))), [2, 0, 1, 2], none⟩]
def vf8r23 : List VOper :=
  [⟨(some 124), .mv (.t 8), [], none⟩,
   ⟨(some 125), .mv (.t 124), [0], none⟩,
   ⟨(some 126), .mv (.t 9), [1], (some (1, true))⟩,
   ⟨(some 127), .len true (.t 126), [2, 1], (some (1, true))⟩,
   ⟨(some 128), .bin Go.BinOp.gtr .no (.t 127) (.c (.p (.int Go.IntKind.i64 6))), [3, 1], (some (1, true))⟩,
   ⟨(some 129), .pick (.t 125) (.t 128) (.c (.p (.bool false))), [1, 4], none⟩,
   ⟨(some 130), .mv (.t 129), [5, 1], none⟩,
   ⟨(some 131), .mv (.t 9), [6], (some (6, false))⟩,
   ⟨(some 132), .len true (.t 131), [7, 6], (some (6, false))⟩,
   ⟨(some 133), .bin Go.BinOp.gtr .no (.t 132) (.c (.p (.int Go.IntKind.i64 16))), [8, 6], (some (6, false))⟩,
   ⟨(some 134), .pick (.t 130) (.c (.p (.bool true))) (.t 133), [6, 9], none⟩]
def vf8r24 : List VOper :=
  [⟨(some 135), .mv (.t 6), [], none⟩,
   ⟨(some 2), .asg (.c (.p .nils)), [], none⟩,
   ⟨(some 3), .asg (.t 135), [0, 1, 0, 1], none⟩,
   ⟨(some 4), .asg (.c (.p (.int Go.IntKind.i64 6))), [2, 0, 1, 2], none⟩]
def vf8r25 : List VOper :=
  [⟨(some 136), .mv (.t 9), [], none⟩,
   ⟨(some 137), .mv (.t 6), [], none⟩,
   ⟨(some 138), .build [(.p (.int Go.IntKind.i64 0)), (.p (.str [])), (.p (.int Go.IntKind.i64 0)), (.p (.int Go.IntKind.i64 0))] [(0, 1, (.c (.p (.int Go.IntKind.i64 1)))), (1, 1, (.t 136)), (3, 1, (.t 137))], [0, 1], none⟩,
   ⟨(some 10), .alloc false [(.int Go.IntKind.i64 0), (.str []), (.int Go.IntKind.i64 0), (.int Go.IntKind.i64 0)], [], none⟩,
   ⟨none, .store 4 (.t 10) (.t 138), [3, 2, 0, 1, 2, 3], none⟩]
def vf8r26 : List VOper :=
  [⟨(some 139), .mv (.t 8), [], none⟩]
def vf8r27 : List VOper :=
  [⟨(some 140), .faddr 0 (.t 10), [], none⟩,
   ⟨none, .store 1 (.t 140) (.c (.p (.int Go.IntKind.i64 2))), [0], none⟩]
def vf8r28 : List VOper :=
  [⟨(some 11), .asg (.c (.p (.int Go.IntKind.i64 0))), [], none⟩]
def vf8r29 : List VOper :=
  [⟨(some 141), .mv (.t 11), [], none⟩,
   ⟨(some 142), .mv (.t 9), [], none⟩,
   ⟨(some 143), .len true (.t 142), [1], none⟩,
   ⟨(some 144), .bin Go.BinOp.lss .no (.t 141) (.t 143), [0, 2], none⟩]
def vf8r30 : List VOper :=
  [⟨(some 147), .faddr 2 (.t 10), [], none⟩,
   ⟨(some 148), .load none (.t 147), [0], none⟩,
   ⟨(some 149), .bin Go.BinOp.mul .no (.t 148) (.c (.p (.int Go.IntKind.i64 10))), [1], none⟩,
   ⟨(some 150), .mv (.t 9), [], none⟩,
   ⟨(some 151), .mv (.t 11), [], none⟩,
   ⟨(some 152), .idxS (.t 150) (.t 151), [3, 4], none⟩,
   ⟨(some 153), .conv (.int Go.IntKind.i64) (.t 152), [5], none⟩,
   ⟨(some 154), .bin Go.BinOp.add .no (.t 149) (.t 153), [2, 6], none⟩,
   ⟨(some 155), .bin Go.BinOp.sub .no (.t 154) (.c (.p (.int Go.IntKind.i64 48))), [7], none⟩,
   ⟨(some 156), .faddr 2 (.t 10), [0, 1, 2, 3, 4, 5, 6, 7, 8], none⟩,
   ⟨none, .store 1 (.t 156) (.t 155), [9, 8, 0, 1, 2, 3, 4, 5, 6, 7, 8], none⟩]
def vf8r31 : List VOper :=
  [⟨(some 145), .mv (.t 11), [], none⟩,
   ⟨(some 146), .bin Go.BinOp.add .no (.t 145) (.c (.p (.int Go.IntKind.i64 1))), [0], none⟩,
   ⟨(some 11), .asg (.t 146), [1, 0, 1], none⟩]
def vf8r32 : List VOper :=
  [⟨(some 157), .mv (.t 5), [], none⟩,
   ⟨(some 158), .load (some 4) (.t 10), [], none⟩,
   ⟨(some 159), .lit 4 [(.int Go.IntKind.i64 0), (.str []), (.int Go.IntKind.i64 0), (.int Go.IntKind.i64 0)] 1 [(0, (.t 158))], [1], none⟩,
   ⟨(some 160), .append false 4 40 (.t 157) (.t 159), [0, 2], none⟩,
   ⟨(some 5), .asg (.t 160), [3, 3, 0, 1, 2, 3], none⟩]
def vf8r33 : List VOper :=
  [⟨(some 161), .mv (.t 7), [], none⟩,
   ⟨(some 6), .asg (.t 161), [0, 0], none⟩]
def vf8r34 : List VOper :=
  [⟨(some 162), .mv (.t 5), [], none⟩,
   ⟨(some 2), .asg (.t 162), [0, 0], none⟩,
   ⟨(some 3), .asg (.c (.p (.int Go.IntKind.i64 0))), [1, 0, 1], none⟩,
   ⟨(some 4), .asg (.c (.p (.int Go.IntKind.i64 0))), [2, 0, 1, 2], none⟩]
def vf8 : VFun where
  vars := [0]
  boxes := [10]
  mv := []
  res := [(.t 2), (.t 3), (.t 4)]
  body := (.seq (.region none vf8r0 [0, 16] [0, 16])
 (.seq (.seq (.region none vf8r1 [0, 14, 16] [0, 14, 16])
 (.cond (.t 14) (.seq (.region none vf8r2 [2, 3, 4, 5, 6, 7, 44, 60, 63, 123, 135, 160, 161, 162] [2, 3, 4, 5, 6, 7, 44, 60, 63, 123, 135, 160, 161, 162])
 .ret)
 .skip))
 (.seq (.region none vf8r3 [0, 16] [0, 16])
 (.seq (.region none vf8r4 [0, 5, 16, 44, 60, 160] [0, 5, 16, 44, 60, 160])
 (.seq (.region none vf8r5 [0, 5, 6, 7, 16, 44, 60, 63, 160, 161] [0, 5, 6, 7, 16, 44, 60, 63, 160, 161])
 (.seq (.block 0 (.loop (.seq (.seq (.region none vf8r6 [0, 5, 6, 7, 16, 20, 44, 60, 63, 160, 161] [0, 5, 6, 7, 16, 20, 44, 60, 63, 160, 161])
 (.cond (.t 20) .skip
 (.exit 0)))
 (.block 1 (.seq (.seq (.region none vf8r7 [0, 5, 6, 7, 16, 24, 44, 60, 63, 160, 161] [0, 5, 6, 7, 16, 24, 44, 60, 63, 160, 161])
 (.cond (.t 24) (.seq (.region none vf8r8 [0, 5, 6, 7, 16, 44, 60, 63, 160, 161] [0, 5, 6, 7, 16, 44, 60, 63, 160, 161])
 (.exit 1))
 .skip))
 (.seq (.seq (.region none vf8r9 [0, 5, 6, 7, 16, 39, 44, 60, 63, 160, 161] [0, 5, 6, 7, 16, 39, 44, 60, 63, 160, 161])
 (.cond (.t 39) (.seq (.region none vf8r10 [0, 5, 6, 7, 16, 44, 60, 63, 160, 161] [0, 5, 6, 7, 16, 44, 60, 63, 160, 161])
 (.seq (.region none vf8r11 [0, 5, 6, 7, 16, 44, 60, 63, 160, 161] [0, 5, 6, 7, 16, 44, 60, 63, 160, 161])
 (.exit 1)))
 .skip))
 (.seq (.seq (.region none vf8r12 [0, 5, 6, 7, 16, 44, 50, 60, 63, 160, 161] [0, 5, 6, 7, 16, 44, 50, 60, 63, 160, 161])
 (.cond (.t 50) (.seq (.region none vf8r13 [0, 5, 6, 7, 16, 44, 60, 63, 160, 161] [0, 5, 6, 7, 16, 44, 60, 63, 160, 161])
 (.seq (.region none vf8r14 [0, 5, 6, 7, 16, 44, 60, 63, 160, 161] [0, 5, 6, 7, 16, 44, 60, 63, 160, 161])
 (.exit 1)))
 .skip))
 (.seq (.region none vf8r15 [0, 5, 6, 7, 16, 44, 60, 63, 160, 161] [0, 5, 6, 7, 16, 44, 60, 63, 160, 161])
 (.seq (.region none vf8r16 [0, 5, 6, 7, 8, 16, 44, 60, 63, 86, 160, 161] [0, 5, 6, 7, 8, 16, 44, 60, 63, 86, 160, 161])
 (.seq (.block 2 (.loop (.seq (.seq (.region none vf8r17 [0, 5, 6, 7, 8, 16, 44, 60, 63, 79, 86, 160, 161] [0, 5, 6, 7, 8, 16, 44, 60, 63, 79, 86, 160, 161])
 (.cond (.t 79) .skip
 (.exit 2)))
 (.block 3 (.seq (.region none vf8r18 [0, 5, 6, 7, 8, 16, 44, 60, 63, 86, 160, 161] [0, 5, 6, 7, 8, 16, 44, 60, 63, 86, 160, 161])
 (.region none vf8r19 [0, 5, 6, 7, 8, 16, 44, 60, 63, 86, 160, 161] [0, 5, 6, 7, 8, 16, 44, 60, 63, 86, 160, 161]))))))
 (.seq (.region none vf8r20 [0, 5, 6, 7, 8, 9, 16, 44, 60, 63, 86, 160, 161] [0, 5, 6, 7, 8, 9, 16, 44, 60, 63, 86, 160, 161])
 (.seq (.seq (.region none vf8r21 [0, 5, 6, 7, 8, 9, 16, 44, 60, 63, 86, 122, 160, 161] [0, 5, 6, 7, 8, 9, 16, 44, 60, 63, 86, 122, 160, 161])
 (.cond (.t 122) (.seq (.region none vf8r22 [2, 3, 4, 5, 6, 7, 44, 60, 63, 123, 135, 160, 161, 162] [2, 3, 4, 5, 6, 7, 44, 60, 63, 123, 135, 160, 161, 162])
 .ret)
 .skip))
 (.seq (.seq (.region none vf8r23 [0, 5, 6, 7, 8, 9, 16, 44, 60, 63, 86, 134, 160, 161] [0, 5, 6, 7, 8, 9, 16, 44, 60, 63, 86, 134, 160, 161])
 (.cond (.t 134) (.seq (.region none vf8r24 [2, 3, 4, 5, 6, 7, 44, 60, 63, 123, 135, 160, 161, 162] [2, 3, 4, 5, 6, 7, 44, 60, 63, 123, 135, 160, 161, 162])
 .ret)
 .skip))
 (.seq (.region none vf8r25 [0, 5, 6, 7, 8, 9, 10, 16, 44, 60, 63, 86, 160, 161] [0, 5, 6, 7, 8, 9, 10, 16, 44, 60, 63, 86, 160, 161])
 (.seq (.seq (.region none vf8r26 [0, 5, 6, 7, 8, 9, 10, 16, 44, 60, 63, 86, 139, 160, 161] [0, 5, 6, 7, 8, 9, 10, 16, 44, 60, 63, 86, 139, 160, 161])
 (.cond (.t 139) (.seq (.region none vf8r27 [0, 5, 6, 7, 9, 10, 16, 44, 60, 63, 160, 161] [0, 5, 6, 7, 9, 10, 16, 44, 60, 63, 160, 161])
 (.seq (.region none vf8r28 [0, 5, 6, 7, 9, 10, 11, 16, 44, 60, 63, 160, 161] [0, 5, 6, 7, 9, 10, 11, 16, 44, 60, 63, 160, 161])
 (.block 4 (.loop (.seq (.seq (.region none vf8r29 [0, 5, 6, 7, 9, 10, 11, 16, 44, 60, 63, 144, 160, 161] [0, 5, 6, 7, 9, 10, 11, 16, 44, 60, 63, 144, 160, 161])
 (.cond (.t 144) .skip
 (.exit 4)))
 (.seq (.block 5 (.region (some ([10], (.one 0 (.one 1 (.one 2 (.one 3 (.one 4 (.one 5 (.one 6 (.one 7 (.one 8 (.one 9 (.one 10 .fin))))))))))))) vf8r30 [0, 5, 6, 7, 9, 10, 11, 16, 44, 60, 63, 160, 161] [0, 5, 6, 7, 9, 10, 11, 16, 44, 60, 63, 160, 161]))
 (.region none vf8r31 [0, 5, 6, 7, 9, 10, 11, 16, 44, 60, 63, 160, 161] [0, 5, 6, 7, 9, 10, 11, 16, 44, 60, 63, 160, 161])))))))
 .skip))
 (.seq (.region none vf8r32 [0, 5, 6, 7, 16, 44, 60, 63, 160, 161] [0, 5, 6, 7, 16, 44, 60, 63, 160, 161])
 (.region none vf8r33 [0, 5, 6, 7, 16, 44, 60, 63, 160, 161] [0, 5, 6, 7, 16, 44, 60, 63, 160, 161])))))))))))))))))
 (.seq (.region none vf8r34 [2, 3, 4, 5, 6, 7, 44, 60, 63, 123, 135, 160, 161, 162] [2, 3, 4, 5, 6, 7, 44, 60, 63, 123, 135, 160, 161, 162])
 .ret)))))))

def vf9r0 : List VOper :=
  [⟨(some 6), .asg (.c (.p (.bool false))), [], none⟩]
def vf9r1 : List VOper :=
  [⟨(some 9), .mv (.t 0), [], none⟩,
   ⟨(some 10), .len false (.t 9), [0], none⟩,
   ⟨(some 11), .mv (.t 1), [], none⟩,
   ⟨(some 12), .len false (.t 11), [2], none⟩,
   ⟨(some 13), .bin Go.BinOp.neq .no (.t 10) (.t 12), [1, 3], none⟩]
def vf9r2 : List VOper :=
  [⟨(some 6), .asg (.c (.p (.bool false))), [], none⟩]
def vf9r3 : List VOper :=
  [⟨(some 14), .mv (.t 1), [], none⟩,
   ⟨(some 15), .len false (.t 14), [0], none⟩,
   ⟨(some 16), .mv (.c (.p (.int Go.IntKind.i64 0))), [], none⟩]
def vf9r4 : List VOper :=
  [⟨(some 17), .bin Go.BinOp.lss .no (.t 16) (.t 15), [], none⟩]
def vf9r5 : List VOper :=
  [⟨(some 18), .mv (.t 16), [], none⟩,
   ⟨(some 19), .iaddrS 4 (.t 14) (.t 16), [], none⟩,
   ⟨(some 20), .load (some 4) (.t 19), [1], none⟩,
   ⟨(some 8), .alloc false [(.int Go.IntKind.i64 0), (.str []), (.int Go.IntKind.i64 0), (.int Go.IntKind.i64 0)], [], none⟩,
   ⟨(some 7), .asg (.t 18), [0, 0, 1, 2, 3], none⟩,
   ⟨none, .store 4 (.t 8) (.t 20), [3, 2, 4, 0, 1, 2, 3, 4], none⟩]
def vf9r6 : List VOper :=
  [⟨(some 21), .mv (.t 0), [], none⟩,
   ⟨(some 22), .mv (.t 7), [], none⟩,
   ⟨(some 23), .iaddrS 4 (.t 21) (.t 22), [0, 1], none⟩,
   ⟨(some 24), .faddr 0 (.t 23), [2], none⟩,
   ⟨(some 25), .load none (.t 24), [3], none⟩,
   ⟨(some 26), .faddr 0 (.t 8), [], none⟩,
   ⟨(some 27), .load none (.t 26), [5], none⟩,
   ⟨(some 28), .bin Go.BinOp.neq .no (.t 25) (.t 27), [4, 6], none⟩,
   ⟨(some 29), .mv (.t 28), [7], none⟩,
   ⟨(some 30), .mv (.t 0), [8], (some (8, false))⟩,
   ⟨(some 31), .mv (.t 7), [8], (some (8, false))⟩,
   ⟨(some 32), .iaddrS 4 (.t 30) (.t 31), [9, 10, 8], (some (8, false))⟩,
   ⟨(some 33), .faddr 1 (.t 32), [11, 8], (some (8, false))⟩,
   ⟨(some 34), .load none (.t 33), [12, 8], (some (8, false))⟩,
   ⟨(some 35), .faddr 1 (.t 8), [8], (some (8, false))⟩,
   ⟨(some 36), .load none (.t 35), [14, 8], (some (8, false))⟩,
   ⟨(some 37), .bin Go.BinOp.neq .no (.t 34) (.t 36), [13, 15, 8], (some (8, false))⟩,
   ⟨(some 38), .pick (.t 29) (.c (.p (.bool true))) (.t 37), [8, 16], none⟩,
   ⟨(some 39), .mv (.t 38), [17, 8], none⟩,
   ⟨(some 40), .mv (.t 0), [18], (some (18, false))⟩,
   ⟨(some 41), .mv (.t 7), [18], (some (18, false))⟩,
   ⟨(some 42), .iaddrS 4 (.t 40) (.t 41), [19, 20, 18], (some (18, false))⟩,
   ⟨(some 43), .faddr 2 (.t 42), [21, 18], (some (18, false))⟩,
   ⟨(some 44), .load none (.t 43), [22, 18], (some (18, false))⟩,
   ⟨(some 45), .faddr 2 (.t 8), [18], (some (18, false))⟩,
   ⟨(some 46), .load none (.t 45), [24, 18], (some (18, false))⟩,
   ⟨(some 47), .bin Go.BinOp.neq .no (.t 44) (.t 46), [23, 25, 18], (some (18, false))⟩,
   ⟨(some 48), .pick (.t 39) (.c (.p (.bool true))) (.t 47), [18, 26], none⟩,
   ⟨(some 49), .mv (.t 48), [27, 18], none⟩,
   ⟨(some 50), .mv (.t 0), [28], (some (28, false))⟩,
   ⟨(some 51), .mv (.t 7), [28], (some (28, false))⟩,
   ⟨(some 52), .iaddrS 4 (.t 50) (.t 51), [29, 30, 28], (some (28, false))⟩,
   ⟨(some 53), .faddr 3 (.t 52), [31, 28], (some (28, false))⟩,
   ⟨(some 54), .load none (.t 53), [32, 28], (some (28, false))⟩,
   ⟨(some 55), .faddr 3 (.t 8), [28], (some (28, false))⟩,
   ⟨(some 56), .load none (.t 55), [34, 28], (some (28, false))⟩,
   ⟨(some 57), .mv (.t 2), [28], (some (28, false))⟩,
   ⟨(some 58), .bin Go.BinOp.add .no (.t 56) (.t 57), [35, 36, 28], (some (28, false))⟩,
   ⟨(some 59), .bin Go.BinOp.neq .no (.t 54) (.t 58), [33, 37, 28], (some (28, false))⟩,
   ⟨(some 60), .pick (.t 49) (.c (.p (.bool true))) (.t 59), [28, 38], none⟩]
def vf9r7 : List VOper :=
  [⟨(some 6), .asg (.c (.p (.bool false))), [], none⟩]
def vf9r8 : List VOper :=
  [⟨(some 61), .bin Go.BinOp.add .no (.t 16) (.c (.p (.int Go.IntKind.i64 1))), [], none⟩,
   ⟨(some 16), .mv (.t 61), [0], none⟩]
def vf9r9 : List VOper :=
  [⟨(some 6), .asg (.c (.p (.bool true))), [], none⟩]
def vf9 : VFun where
  vars := [0, 1, 2]
  boxes := [8]
  mv := []
  res := [(.t 6)]
  body := (.seq (.region none vf9r0 [0, 1, 2] [0, 1, 2])
 (.seq (.seq (.region none vf9r1 [0, 1, 2, 13] [0, 1, 2, 13])
 (.cond (.t 13) (.seq (.region none vf9r2 [6] [6])
 .ret)
 .skip))
 (.seq (.seq (.region none vf9r3 [0, 1, 2, 14, 15, 16] [0, 1, 2, 14, 15, 16])
 (.block 0 (.loop (.seq (.region none vf9r4 [0, 1, 2, 14, 15, 16, 17] [0, 1, 2, 14, 15, 16, 17])
 (.seq (.cond (.t 17) .skip
 (.exit 0))
 (.seq (.block 1 (.seq (.region none vf9r5 [0, 1, 2, 7, 8, 14, 15, 16, 18] [0, 1, 2, 7, 8, 14, 15, 16, 18])
 (.seq (.region (some ([], (.one 0 (.one 1 (.one 2 (.one 3 (.one 4 (.one 5 (.one 6 (.one 7 (.one 8 (.one 9 (.one 10 (.one 11 (.one 12 (.one 13 (.one 14 (.one 15 (.one 16 (.one 17 (.one 18 (.one 19 (.one 20 (.one 21 (.one 22 (.one 23 (.one 24 (.one 25 (.one 26 (.one 27 (.one 28 (.one 29 (.one 30 (.one 31 (.one 32 (.one 33 (.one 34 (.one 35 (.one 36 (.one 37 (.one 38 (.one 39 .fin)))))))))))))))))))))))))))))))))))))))))) vf9r6 [0, 1, 2, 14, 15, 16, 60] [0, 1, 2, 14, 15, 16, 60])
 (.cond (.t 60) (.seq (.region none vf9r7 [6] [6])
 .ret)
 .skip))))
 (.region none vf9r8 [0, 1, 2, 14, 15, 16] [0, 1, 2, 14, 15, 16])))))))
 (.seq (.region none vf9r9 [6] [6])
 .ret))))

def vf10r0 : List VOper :=
  [⟨(some 0), .asg (.c (.p (.bool false))), [], none⟩]
def vf10r1 : List VOper :=
  [⟨(some 5), .call 7 [(.c (.p (.str [118, 105, 97, 32, 51, 58, 32, 97, 45, 62, 98, 59])))], [], none⟩,
   ⟨(some 4), .mv (.t 5), [0], none⟩,
   ⟨(some 6), .ext (.t 4) 0, [1], none⟩,
   ⟨(some 7), .ext (.t 4) 1, [1], none⟩,
   ⟨(some 8), .ext (.t 4) 2, [1], none⟩,
   ⟨(some 1), .asg (.t 6), [2, 0, 0, 1, 2], none⟩,
   ⟨(some 2), .asg (.t 7), [3, 5, 0, 1, 2, 3, 5], none⟩,
   ⟨(some 3), .asg (.t 8), [4, 6, 0, 1, 2, 3, 4, 5, 6], none⟩]
def vf10r2 : List VOper :=
  [⟨(some 9), .mv (.t 3), [], none⟩,
   ⟨(some 10), .bin Go.BinOp.eql .no (.t 9) (.c (.p (.int Go.IntKind.i64 0))), [0], none⟩,
   ⟨(some 11), .mv (.t 10), [1], none⟩,
   ⟨(some 12), .mv (.t 1), [2], (some (2, true))⟩,
   ⟨(some 13), .len false (.t 12), [3, 2], (some (2, true))⟩,
   ⟨(some 14), .bin Go.BinOp.eql .no (.t 13) (.c (.p (.int Go.IntKind.i64 7))), [4, 2], (some (2, true))⟩,
   ⟨(some 15), .pick (.t 11) (.t 14) (.c (.p (.bool false))), [2, 5], none⟩,
   ⟨(some 16), .mv (.t 15), [6, 2], none⟩,
   ⟨(some 17), .mv (.t 1), [7], (some (7, true))⟩,
   ⟨(some 18), .iaddrS 4 (.t 17) (.c (.p (.int Go.IntKind.i64 1))), [8, 7], (some (7, true))⟩,
   ⟨(some 19), .faddr 2 (.t 18), [9, 7], (some (7, true))⟩,
   ⟨(some 20), .load none (.t 19), [10, 7], (some (7, true))⟩,
   ⟨(some 21), .bin Go.BinOp.eql .no (.t 20) (.c (.p (.int Go.IntKind.i64 3))), [11, 7], (some (7, true))⟩,
   ⟨(some 22), .pick (.t 16) (.t 21) (.c (.p (.bool false))), [7, 12], none⟩,
   ⟨(some 23), .mv (.t 22), [13, 7], none⟩,
   ⟨(some 24), .mv (.t 1), [14], (some (14, true))⟩,
   ⟨(some 25), .iaddrS 4 (.t 24) (.c (.p (.int Go.IntKind.i64 4))), [15, 14], (some (14, true))⟩,
   ⟨(some 26), .faddr 1 (.t 25), [16, 14], (some (14, true))⟩,
   ⟨(some 27), .load none (.t 26), [17, 14], (some (14, true))⟩,
   ⟨(some 28), .bin Go.BinOp.eql .no (.t 27) (.c (.p (.str [45, 62]))), [18, 14], (some (14, true))⟩,
   ⟨(some 29), .pick (.t 23) (.t 28) (.c (.p (.bool false))), [14, 19], none⟩,
   ⟨(some 30), .mv (.t 29), [20, 14], none⟩,
   ⟨(some 31), .mv (.t 1), [21], (some (21, true))⟩,
   ⟨(some 32), .iaddrS 4 (.t 31) (.c (.p (.int Go.IntKind.i64 4))), [22, 21], (some (21, true))⟩,
   ⟨(some 33), .faddr 3 (.t 32), [23, 21], (some (21, true))⟩,
   ⟨(some 34), .load none (.t 33), [24, 21], (some (21, true))⟩,
   ⟨(some 35), .bin Go.BinOp.eql .no (.t 34) (.c (.p (.int Go.IntKind.i64 8))), [25, 21], (some (21, true))⟩,
   ⟨(some 36), .pick (.t 30) (.t 35) (.c (.p (.bool false))), [21, 26], none⟩,
   ⟨(some 37), .mv (.t 36), [27, 21], none⟩,
   ⟨(some 38), .mv (.t 1), [28], (some (28, true))⟩,
   ⟨(some 39), .iaddrS 4 (.t 38) (.c (.p (.int Go.IntKind.i64 6))), [29, 28], (some (28, true))⟩,
   ⟨(some 40), .faddr 3 (.t 39), [30, 28], (some (28, true))⟩,
   ⟨(some 41), .load none (.t 40), [31, 28], (some (28, true))⟩,
   ⟨(some 42), .bin Go.BinOp.eql .no (.t 41) (.c (.p (.int Go.IntKind.i64 11))), [32, 28], (some (28, true))⟩,
   ⟨(some 43), .pick (.t 37) (.t 42) (.c (.p (.bool false))), [28, 33], none⟩,
   ⟨(some 0), .asg (.t 43), [34, 28, 0, 1, 2, 3, 4, 5, 6, 7, 8, 9, 10, 11, 12, 13, 14, 15, 16, 17, 18, 19, 20, 21, 22, 23, 24, 25, 26, 27, 28, 29, 30, 31, 32, 33, 34], none⟩]
def vf10 : VFun where
  vars := []
  boxes := []
  mv := []
  res := [(.t 0)]
  body := (.seq (.region none vf10r0 [] [])
 (.seq (.region none vf10r1 [1, 3, 6, 8] [1, 3, 6, 8])
 (.seq (.region none vf10r2 [0, 43] [0, 43])
 .ret)))

def vf13r0 : List VOper :=
  [⟨(some 4), .asg (.c (.p (.int Go.IntKind.i64 0))), [], none⟩]
def vf13r1 : List VOper :=
  [⟨(some 6), .mv (.t 1), [], none⟩,
   ⟨(some 7), .mv (.t 0), [], none⟩,
   ⟨(some 8), .len true (.t 7), [1], none⟩,
   ⟨(some 9), .bin Go.BinOp.lss .no (.t 6) (.t 8), [0, 2], none⟩]
def vf13r2 : List VOper :=
  [⟨(some 10), .mv (.t 0), [], none⟩,
   ⟨(some 11), .mv (.t 1), [], none⟩,
   ⟨(some 12), .idxS (.t 10) (.t 11), [0, 1], none⟩]
def vf13r3 : List VOper :=
  [⟨(some 15), .bin Go.BinOp.eql .no (.t 12) (.c (.p (.int Go.IntKind.u8 32))), [], none⟩,
   ⟨(some 14), .asg (.t 15), [0], none⟩]
def vf13r4 : List VOper :=
  [⟨(some 16), .bin Go.BinOp.eql .no (.t 12) (.c (.p (.int Go.IntKind.u8 9))), [], none⟩,
   ⟨(some 14), .asg (.t 16), [0], none⟩]
def vf13r5 : List VOper :=
  [⟨(some 17), .bin Go.BinOp.eql .no (.t 12) (.c (.p (.int Go.IntKind.u8 10))), [], none⟩,
   ⟨(some 14), .asg (.t 17), [0], none⟩]
def vf13r6 : List VOper :=
  [⟨(some 18), .bin Go.BinOp.eql .no (.t 12) (.c (.p (.int Go.IntKind.u8 13))), [], none⟩,
   ⟨(some 14), .asg (.t 18), [0], none⟩]
def vf13r7 : List VOper :=
  [⟨(some 19), .mv (.t 1), [], none⟩,
   ⟨(some 20), .bin Go.BinOp.add .no (.t 19) (.c (.p (.int Go.IntKind.i64 1))), [0], none⟩,
   ⟨(some 1), .asg (.t 20), [1, 0, 1], none⟩]
def vf13r8 : List VOper :=
  [⟨(some 22), .bin Go.BinOp.eql .no (.t 12) (.c (.p (.int Go.IntKind.u8 35))), [], none⟩,
   ⟨(some 21), .asg (.t 22), [0], none⟩]
def vf13r9 : List VOper :=
  [⟨(some 23), .mv (.t 0), [], none⟩,
   ⟨(some 24), .mv (.t 1), [], none⟩,
   ⟨(some 25), .slc true 1 (.t 23) (some (.t 24)) none none, [0, 1], none⟩,
   ⟨(some 26), .call 17 [(.t 25), (.c (.p (.int Go.IntKind.u8 10)))], [2], none⟩,
   ⟨(some 5), .asg (.t 26), [3, 3, 0, 1, 2, 3], none⟩]
def vf13r10 : List VOper :=
  [⟨(some 27), .mv (.t 5), [], none⟩,
   ⟨(some 28), .bin Go.BinOp.lss .no (.t 27) (.c (.p (.int Go.IntKind.i64 0))), [0], none⟩]
def vf13r11 : List VOper :=
  [⟨(some 29), .mv (.t 0), [], none⟩,
   ⟨(some 30), .len true (.t 29), [0], none⟩,
   ⟨(some 4), .asg (.t 30), [1, 0, 1], none⟩]
def vf13r12 : List VOper :=
  [⟨(some 31), .mv (.t 1), [], none⟩,
   ⟨(some 32), .mv (.t 5), [], none⟩,
   ⟨(some 33), .bin Go.BinOp.add .no (.t 31) (.t 32), [0, 1], none⟩,
   ⟨(some 1), .asg (.t 33), [2, 0, 1, 2], none⟩]
def vf13r13 : List VOper :=
  [⟨(some 13), .mv (.t 1), [], none⟩,
   ⟨(some 4), .asg (.t 13), [0, 0], none⟩]
def vf13r14 : List VOper :=
  [⟨(some 34), .mv (.t 1), [], none⟩,
   ⟨(some 4), .asg (.t 34), [0, 0], none⟩]
def vf13 : VFun where
  vars := [0, 1]
  boxes := []
  mv := []
  res := [(.t 4)]
  body := (.seq (.region none vf13r0 [0, 1] [0, 1])
 (.seq (.block 0 (.loop (.seq (.seq (.region none vf13r1 [0, 1, 9] [0, 1, 9])
 (.cond (.t 9) .skip
 (.exit 0)))
 (.block 1 (.seq (.region none vf13r2 [0, 1, 12] [0, 1, 12])
 (.block 2 (.seq (.seq (.region none vf13r3 [0, 1, 12, 14] [0, 1, 12, 14])
 (.cond (.t 14) .skip
 (.seq (.region none vf13r4 [0, 1, 12, 14] [0, 1, 12, 14])
 (.cond (.t 14) .skip
 (.seq (.region none vf13r5 [0, 1, 12, 14] [0, 1, 12, 14])
 (.cond (.t 14) .skip
 (.region none vf13r6 [0, 1, 12, 14] [0, 1, 12, 14])))))))
 (.cond (.t 14) (.region none vf13r7 [0, 1] [0, 1])
 (.seq (.region none vf13r8 [0, 1, 21] [0, 1, 21])
 (.cond (.t 21) (.seq (.region none vf13r9 [0, 1, 5, 26] [0, 1, 5, 26])
 (.seq (.seq (.region none vf13r10 [0, 1, 5, 26, 28] [0, 1, 5, 26, 28])
 (.cond (.t 28) (.seq (.region none vf13r11 [1, 4, 13, 34] [1, 4, 13, 34])
 .ret)
 .skip))
 (.region none vf13r12 [0, 1] [0, 1])))
 (.seq (.region none vf13r13 [1, 4, 13, 34] [1, 4, 13, 34])
 .ret)))))))))))
 (.seq (.region none vf13r14 [1, 4, 13, 34] [1, 4, 13, 34])
 .ret)))

def vf14r0 : List VOper :=
  [⟨(some 2), .alloc false [(.int Go.IntKind.i64 0), (.str []), (.int Go.IntKind.i64 0), (.int Go.IntKind.i64 0)], [], none⟩,
   ⟨(some 3), .asg (.c (.p (.int Go.IntKind.i64 0))), [], none⟩]
def vf14r1 : List VOper :=
  [⟨(some 5), .mv (.t 0), [], none⟩,
   ⟨(some 6), .call 18 [(.t 5)], [0], none⟩,
   ⟨(some 4), .asg (.t 6), [1, 1, 0, 1], none⟩]
def vf14r2 : List VOper :=
  [⟨(some 8), .mv (.t 4), [], none⟩,
   ⟨(some 9), .bin Go.BinOp.gtr .no (.t 8) (.c (.p (.int Go.IntKind.i64 0))), [0], none⟩,
   ⟨(some 10), .mv (.t 9), [1], none⟩,
   ⟨(some 11), .mv (.t 0), [2], (some (2, true))⟩,
   ⟨(some 12), .mv (.t 4), [2], (some (2, true))⟩,
   ⟨(some 13), .slc true 1 (.t 11) none (some (.t 12)) none, [3, 4, 2], (some (2, true))⟩,
   ⟨(some 14), .call 19 [(.t 13)], [5, 2, 2], (some (2, true))⟩,
   ⟨(some 15), .pick (.t 10) (.t 14) (.c (.p (.bool false))), [2, 6], none⟩,
   ⟨(some 7), .asg (.t 15), [7, 6], none⟩]
def vf14r3 : List VOper :=
  [⟨(some 16), .mv (.t 0), [], none⟩,
   ⟨(some 17), .mv (.t 4), [], none⟩,
   ⟨(some 18), .slc true 1 (.t 16) none (some (.t 17)) none, [0, 1], none⟩,
   ⟨(some 19), .call 20 [(.t 18)], [2], none⟩,
   ⟨(some 20), .ext (.t 19) 0, [3], none⟩,
   ⟨(some 21), .ext (.t 19) 1, [3], none⟩,
   ⟨none, .store 4 (.t 2) (.t 20), [4, 3, 0, 1, 2, 3, 4, 5], none⟩,
   ⟨(some 3), .asg (.t 21), [5, 6, 0, 1, 2, 3, 4, 5, 6], none⟩]
def vf14r4 : List VOper :=
  [⟨(some 23), .mv (.t 4), [], none⟩,
   ⟨(some 24), .bin Go.BinOp.gtr .no (.t 23) (.c (.p (.int Go.IntKind.i64 0))), [0], none⟩,
   ⟨(some 25), .mv (.t 24), [1], none⟩,
   ⟨(some 26), .mv (.t 0), [2], (some (2, true))⟩,
   ⟨(some 27), .idxS (.t 26) (.c (.p (.int Go.IntKind.i64 0))), [3, 2], (some (2, true))⟩,
   ⟨(some 28), .call 21 [(.t 27)], [4, 2, 2], (some (2, true))⟩,
   ⟨(some 29), .un Go.UnOp.not (.t 28), [5, 2], (some (2, true))⟩,
   ⟨(some 30), .pick (.t 25) (.t 29) (.c (.p (.bool false))), [2, 6], none⟩,
   ⟨(some 22), .asg (.t 30), [7, 5], none⟩]
def vf14r5 : List VOper :=
  [⟨(some 31), .build [(.p (.int Go.IntKind.i64 0)), (.p (.str [])), (.p (.int Go.IntKind.i64 0)), (.p (.int Go.IntKind.i64 0))] [], [], none⟩,
   ⟨none, .store 4 (.t 2) (.t 31), [0, 0], none⟩,
   ⟨(some 3), .asg (.c (.p (.int Go.IntKind.i64 20))), [1, 0, 1], none⟩]
def vf14r6 : List VOper :=
  [⟨(some 33), .mv (.t 4), [], none⟩,
   ⟨(some 34), .bin Go.BinOp.gtr .no (.t 33) (.c (.p (.int Go.IntKind.i64 16))), [0], none⟩,
   ⟨(some 32), .asg (.t 34), [1], none⟩]
def vf14r7 : List VOper :=
  [⟨(some 35), .build [(.p (.int Go.IntKind.i64 0)), (.p (.str [])), (.p (.int Go.IntKind.i64 0)), (.p (.int Go.IntKind.i64 0))] [], [], none⟩,
   ⟨none, .store 4 (.t 2) (.t 35), [0, 0], none⟩,
   ⟨(some 3), .asg (.c (.p (.int Go.IntKind.i64 6))), [1, 0, 1], none⟩]
def vf14r8 : List VOper :=
  [⟨(some 37), .mv (.t 4), [], none⟩,
   ⟨(some 38), .bin Go.BinOp.gtr .no (.t 37) (.c (.p (.int Go.IntKind.i64 0))), [0], none⟩,
   ⟨(some 36), .asg (.t 38), [1], none⟩]
def vf14r9 : List VOper :=
  [⟨(some 39), .mv (.t 0), [], none⟩,
   ⟨(some 40), .mv (.t 4), [], none⟩,
   ⟨(some 41), .slc true 1 (.t 39) none (some (.t 40)) none, [0, 1], none⟩,
   ⟨(some 42), .build [(.p (.int Go.IntKind.i64 0)), (.p (.str [])), (.p (.int Go.IntKind.i64 0)), (.p (.int Go.IntKind.i64 0))] [(0, 1, (.c (.p (.int Go.IntKind.i64 1)))), (1, 1, (.t 41))], [2], none⟩,
   ⟨none, .store 4 (.t 2) (.t 42), [3, 0, 1, 2, 3], none⟩,
   ⟨(some 3), .asg (.c (.p (.int Go.IntKind.i64 0))), [4, 0, 1, 2, 3, 4], none⟩]
def vf14r10 : List VOper :=
  [⟨(some 43), .mv (.t 0), [], none⟩,
   ⟨(some 44), .idxS (.t 43) (.c (.p (.int Go.IntKind.i64 0))), [0], none⟩]
def vf14r11 : List VOper :=
  [⟨(some 46), .bin Go.BinOp.eql .no (.t 44) (.c (.p (.int Go.IntKind.u8 45))), [], none⟩,
   ⟨(some 45), .asg (.t 46), [0], none⟩]
def vf14r12 : List VOper :=
  [⟨(some 48), .bin Go.BinOp.eql .no (.t 44) (.c (.p (.int Go.IntKind.u8 61))), [], none⟩,
   ⟨(some 47), .asg (.t 48), [0], none⟩]
def vf14r13 : List VOper :=
  [⟨(some 49), .bin Go.BinOp.eql .no (.t 44) (.c (.p (.int Go.IntKind.u8 44))), [], none⟩,
   ⟨(some 47), .asg (.t 49), [0], none⟩]
def vf14r14 : List VOper :=
  [⟨(some 50), .bin Go.BinOp.eql .no (.t 44) (.c (.p (.int Go.IntKind.u8 59))), [], none⟩,
   ⟨(some 47), .asg (.t 50), [0], none⟩]
def vf14r15 : List VOper :=
  [⟨(some 51), .bin Go.BinOp.eql .no (.t 44) (.c (.p (.int Go.IntKind.u8 38))), [], none⟩,
   ⟨(some 47), .asg (.t 51), [0], none⟩]
def vf14r16 : List VOper :=
  [⟨(some 52), .bin Go.BinOp.eql .no (.t 44) (.c (.p (.int Go.IntKind.u8 33))), [], none⟩,
   ⟨(some 47), .asg (.t 52), [0], none⟩]
def vf14r17 : List VOper :=
  [⟨(some 53), .bin Go.BinOp.eql .no (.t 44) (.c (.p (.int Go.IntKind.u8 58))), [], none⟩,
   ⟨(some 47), .asg (.t 53), [0], none⟩]
def vf14r18 : List VOper :=
  [⟨(some 54), .mv (.t 0), [], none⟩,
   ⟨(some 55), .call 22 [(.t 54), (.c (.p (.str [45, 62])))], [0], none⟩]
def vf14r19 : List VOper :=
  [⟨(some 56), .build [(.p (.int Go.IntKind.i64 0)), (.p (.str [])), (.p (.int Go.IntKind.i64 0)), (.p (.int Go.IntKind.i64 0))] [(0, 1, (.c (.p (.int Go.IntKind.i64 3)))), (1, 1, (.c (.p (.str [45, 62]))))], [], none⟩,
   ⟨none, .store 4 (.t 2) (.t 56), [0, 0], none⟩,
   ⟨(some 3), .asg (.c (.p (.int Go.IntKind.i64 0))), [1, 0, 1], none⟩]
def vf14r20 : List VOper :=
  [⟨(some 57), .mv (.t 0), [], none⟩,
   ⟨(some 58), .slc true 1 (.t 57) none (some (.c (.p (.int Go.IntKind.i64 1)))) none, [0], none⟩,
   ⟨(some 59), .build [(.p (.int Go.IntKind.i64 0)), (.p (.str [])), (.p (.int Go.IntKind.i64 0)), (.p (.int Go.IntKind.i64 0))] [(0, 1, (.c (.p (.int Go.IntKind.i64 3)))), (1, 1, (.t 58))], [1], none⟩,
   ⟨none, .store 4 (.t 2) (.t 59), [2, 0, 1, 2], none⟩,
   ⟨(some 3), .asg (.c (.p (.int Go.IntKind.i64 0))), [3, 0, 1, 2, 3], none⟩]
def vf14r21 : List VOper :=
  [⟨(some 60), .build [(.p (.int Go.IntKind.i64 0)), (.p (.str [])), (.p (.int Go.IntKind.i64 0)), (.p (.int Go.IntKind.i64 0))] [], [], none⟩,
   ⟨none, .store 4 (.t 2) (.t 60), [0, 0], none⟩,
   ⟨(some 3), .asg (.c (.p (.int Go.IntKind.i64 20))), [1, 0, 1], none⟩]
def vf14 : VFun where
  vars := [0]
  boxes := [2]
  mv := []
  res := [(.cell 2 (some 4)), (.t 3)]
  body := (.seq (.region none vf14r0 [0, 2] [0, 2])
 (.seq (.region none vf14r1 [0, 2, 4, 6] [0, 2, 4, 6])
 (.seq (.block 0 (.seq (.region none vf14r2 [0, 2, 4, 6, 7, 15] [0, 2, 4, 6, 7, 15])
 (.cond (.t 7) (.seq (.region none vf14r3 [2, 3, 21] [2, 3, 21])
 .ret)
 (.seq (.region none vf14r4 [0, 2, 4, 6, 22, 30] [0, 2, 4, 6, 22, 30])
 (.cond (.t 22) (.seq (.region none vf14r5 [2, 3, 21] [2, 3, 21])
 .ret)
 (.seq (.region none vf14r6 [0, 2, 4, 6, 32] [0, 2, 4, 6, 32])
 (.cond (.t 32) (.seq (.region none vf14r7 [2, 3, 21] [2, 3, 21])
 .ret)
 (.seq (.region none vf14r8 [0, 2, 4, 6, 36] [0, 2, 4, 6, 36])
 (.cond (.t 36) (.seq (.region none vf14r9 [2, 3, 21] [2, 3, 21])
 .ret)
 .skip)))))))))
 (.seq (.seq (.region none vf14r10 [0, 2, 44] [0, 2, 44])
 (.block 1 (.seq (.block 3 (.seq (.block 2 (.seq (.seq (.seq (.region none vf14r11 [0, 2, 44, 45] [0, 2, 44, 45])
 (.cond (.t 45) (.exit 2)
 .skip))
 (.seq (.seq (.region none vf14r12 [0, 2, 44, 47] [0, 2, 44, 47])
 (.cond (.t 47) .skip
 (.seq (.region none vf14r13 [0, 2, 44, 47] [0, 2, 44, 47])
 (.cond (.t 47) .skip
 (.seq (.region none vf14r14 [0, 2, 44, 47] [0, 2, 44, 47])
 (.cond (.t 47) .skip
 (.seq (.region none vf14r15 [0, 2, 44, 47] [0, 2, 44, 47])
 (.cond (.t 47) .skip
 (.seq (.region none vf14r16 [0, 2, 44, 47] [0, 2, 44, 47])
 (.cond (.t 47) .skip
 (.region none vf14r17 [0, 2, 47] [0, 2, 47])))))))))))
 (.cond (.t 47) (.exit 3)
 .skip)))
 (.exit 1)))
 (.seq (.region none vf14r18 [0, 2, 55] [0, 2, 55])
 (.cond (.t 55) (.seq (.region none vf14r19 [2, 3, 21] [2, 3, 21])
 .ret)
 .skip))))
 (.seq (.seq (.region none vf14r20 [2, 3, 21] [2, 3, 21])
 .ret)
 (.exit 1)))))
 (.seq (.region none vf14r21 [2, 3, 21] [2, 3, 21])
 .ret)))))

def vf15r0 : List VOper :=
  [⟨(some 2), .asg (.c (.p (.str []))), [], none⟩]
def vf15r1 : List VOper :=
  [⟨(some 7), .mv (.t 0), [], none⟩,
   ⟨(some 8), .conv .s2b (.t 7), [0], none⟩,
   ⟨(some 3), .asg (.t 8), [1, 0, 1], none⟩]
def vf15r2 : List VOper :=
  [⟨(some 4), .asg (.c (.p (.bool false))), [], none⟩]
def vf15r3 : List VOper :=
  [⟨(some 9), .mv (.t 3), [], none⟩,
   ⟨(some 10), .len false (.t 9), [0], none⟩,
   ⟨(some 11), .mv (.c (.p (.int Go.IntKind.i64 0))), [], none⟩]
def vf15r4 : List VOper :=
  [⟨(some 12), .bin Go.BinOp.lss .no (.t 11) (.t 10), [], none⟩]
def vf15r5 : List VOper :=
  [⟨(some 13), .mv (.t 11), [], none⟩,
   ⟨(some 14), .iaddrS 1 (.t 9) (.t 11), [], none⟩,
   ⟨(some 15), .load none (.t 14), [1], none⟩,
   ⟨(some 5), .asg (.t 13), [0, 0, 1, 2], none⟩,
   ⟨(some 6), .asg (.t 15), [2, 3, 0, 1, 2, 3], none⟩]
def vf15r6 : List VOper :=
  [⟨(some 16), .mv (.t 6), [], none⟩,
   ⟨(some 17), .bin Go.BinOp.eql .no (.t 16) (.c (.p (.int Go.IntKind.u8 35))), [0], none⟩]
def vf15r7 : List VOper :=
  [⟨(some 4), .asg (.c (.p (.bool true))), [], none⟩]
def vf15r8 : List VOper :=
  [⟨(some 18), .mv (.t 6), [], none⟩,
   ⟨(some 19), .bin Go.BinOp.eql .no (.t 18) (.c (.p (.int Go.IntKind.u8 10))), [0], none⟩]
def vf15r9 : List VOper :=
  [⟨(some 4), .asg (.c (.p (.bool false))), [], none⟩]
def vf15r10 : List VOper :=
  [⟨(some 20), .mv (.t 4), [], none⟩]
def vf15r11 : List VOper :=
  [⟨(some 21), .mv (.t 3), [], none⟩,
   ⟨(some 22), .mv (.t 5), [], none⟩,
   ⟨(some 23), .iaddrS 1 (.t 21) (.t 22), [0, 1, 0, 1], none⟩,
   ⟨none, .store 1 (.t 23) (.c (.p (.int Go.IntKind.u8 32))), [2, 0, 1], none⟩]
def vf15r12 : List VOper :=
  [⟨(some 24), .bin Go.BinOp.add .no (.t 11) (.c (.p (.int Go.IntKind.i64 1))), [], none⟩,
   ⟨(some 11), .mv (.t 24), [0], none⟩]
def vf15r13 : List VOper :=
  [⟨(some 25), .mv (.t 3), [], none⟩,
   ⟨(some 26), .conv .b2s (.t 25), [0], none⟩,
   ⟨(some 2), .asg (.t 26), [1, 0, 1], none⟩]
def vf15 : VFun where
  vars := [0]
  boxes := []
  mv := []
  res := [(.t 2)]
  body := (.seq (.region none vf15r0 [0] [0])
 (.seq (.region none vf15r1 [3, 8] [3, 8])
 (.seq (.region none vf15r2 [3, 4, 8] [3, 4, 8])
 (.seq (.seq (.region none vf15r3 [3, 4, 8, 9, 10, 11] [3, 4, 8, 9, 10, 11])
 (.block 0 (.loop (.seq (.region none vf15r4 [3, 4, 8, 9, 10, 11, 12] [3, 4, 8, 9, 10, 11, 12])
 (.seq (.cond (.t 12) .skip
 (.exit 0))
 (.seq (.block 1 (.seq (.region none vf15r5 [3, 4, 5, 6, 8, 9, 10, 11, 13, 15] [3, 4, 5, 6, 8, 9, 10, 11, 13, 15])
 (.seq (.seq (.region none vf15r6 [3, 4, 5, 6, 8, 9, 10, 11, 13, 15, 17] [3, 4, 5, 6, 8, 9, 10, 11, 13, 15, 17])
 (.cond (.t 17) (.region none vf15r7 [3, 4, 5, 6, 8, 9, 10, 11, 13, 15] [3, 4, 5, 6, 8, 9, 10, 11, 13, 15])
 .skip))
 (.seq (.seq (.region none vf15r8 [3, 4, 5, 8, 9, 10, 11, 13, 19] [3, 4, 5, 8, 9, 10, 11, 13, 19])
 (.cond (.t 19) (.region none vf15r9 [3, 4, 5, 8, 9, 10, 11, 13] [3, 4, 5, 8, 9, 10, 11, 13])
 .skip))
 (.seq (.region none vf15r10 [3, 4, 5, 8, 9, 10, 11, 13, 20] [3, 4, 5, 8, 9, 10, 11, 13, 20])
 (.cond (.t 20) (.region none vf15r11 [3, 4, 8, 9, 10, 11] [3, 4, 8, 9, 10, 11])
 .skip))))))
 (.region none vf15r12 [3, 4, 8, 9, 10, 11] [3, 4, 8, 9, 10, 11])))))))
 (.seq (.region none vf15r13 [2, 26] [2, 26])
 .ret)))))

def vf16r0 : List VOper :=
  [⟨(some 4), .asg (.c (.p (.bool false))), [], none⟩]
def vf16r1 : List VOper :=
  [⟨(some 5), .asg (.c (.p (.int Go.IntKind.i64 0))), [], none⟩]
def vf16r2 : List VOper :=
  [⟨(some 6), .mv (.t 5), [], none⟩,
   ⟨(some 7), .mv (.t 1), [], none⟩,
   ⟨(some 8), .len true (.t 7), [1], none⟩,
   ⟨(some 9), .bin Go.BinOp.lss .no (.t 6) (.t 8), [0, 2], none⟩]
def vf16r3 : List VOper :=
  [⟨(some 12), .mv (.t 1), [], none⟩,
   ⟨(some 13), .mv (.t 5), [], none⟩,
   ⟨(some 14), .idxS (.t 12) (.t 13), [0, 1], none⟩,
   ⟨(some 15), .mv (.t 0), [], none⟩,
   ⟨(some 16), .bin Go.BinOp.eql .no (.t 14) (.t 15), [2, 3], none⟩]
def vf16r4 : List VOper :=
  [⟨(some 4), .asg (.c (.p (.bool true))), [], none⟩]
def vf16r5 : List VOper :=
  [⟨(some 10), .mv (.t 5), [], none⟩,
   ⟨(some 11), .bin Go.BinOp.add .no (.t 10) (.c (.p (.int Go.IntKind.i64 1))), [0], none⟩,
   ⟨(some 5), .asg (.t 11), [1, 0, 1], none⟩]
def vf16r6 : List VOper :=
  [⟨(some 4), .asg (.c (.p (.bool false))), [], none⟩]
def vf16 : VFun where
  vars := [0, 1]
  boxes := []
  mv := []
  res := [(.t 4)]
  body := (.seq (.region none vf16r0 [0, 1] [0, 1])
 (.seq (.seq (.region none vf16r1 [0, 1, 5] [0, 1, 5])
 (.block 0 (.loop (.seq (.seq (.region none vf16r2 [0, 1, 5, 9] [0, 1, 5, 9])
 (.cond (.t 9) .skip
 (.exit 0)))
 (.seq (.block 1 (.seq (.region none vf16r3 [0, 1, 5, 16] [0, 1, 5, 16])
 (.cond (.t 16) (.seq (.region none vf16r4 [4] [4])
 .ret)
 .skip)))
 (.region none vf16r5 [0, 1, 5] [0, 1, 5]))))))
 (.seq (.region none vf16r6 [4] [4])
 .ret)))

def vf17r0 : List VOper :=
  [⟨(some 4), .asg (.c (.p (.int Go.IntKind.i64 0))), [], none⟩]
def vf17r1 : List VOper :=
  [⟨(some 5), .mv (.t 0), [], none⟩,
   ⟨(some 6), .mv (.t 1), [], none⟩,
   ⟨(some 7), .call 23 [(.t 5), (.t 6)], [0, 1], none⟩,
   ⟨(some 4), .asg (.t 7), [2, 2, 0, 1, 2], none⟩]
def vf17 : VFun where
  vars := [0, 1]
  boxes := []
  mv := []
  res := [(.t 4)]
  body := (.seq (.region none vf17r0 [0, 1] [0, 1])
 (.seq (.region none vf17r1 [4, 7] [4, 7])
 .ret))

def vf18r0 : List VOper :=
  [⟨(some 2), .asg (.c (.p (.int Go.IntKind.i64 0))), [], none⟩]
def vf18r1 : List VOper :=
  [⟨(some 3), .asg (.c (.p (.int Go.IntKind.i64 0))), [], none⟩]
def vf18r2 : List VOper :=
  [⟨(some 4), .mv (.t 3), [], none⟩,
   ⟨(some 5), .mv (.t 0), [], none⟩,
   ⟨(some 6), .len true (.t 5), [1], none⟩,
   ⟨(some 7), .bin Go.BinOp.lss .no (.t 4) (.t 6), [0, 2], none⟩,
   ⟨(some 8), .mv (.t 7), [3], none⟩,
   ⟨(some 9), .mv (.t 0), [4], (some (4, true))⟩,
   ⟨(some 10), .mv (.t 3), [4], (some (4, true))⟩,
   ⟨(some 11), .idxS (.t 9) (.t 10), [5, 6, 4], (some (4, true))⟩,
   ⟨(some 12), .call 21 [(.t 11)], [7, 4, 4], (some (4, true))⟩,
   ⟨(some 13), .mv (.t 12), [8, 8, 4], (some (4, true))⟩,
   ⟨(some 14), .mv (.t 0), [9], (some (9, false))⟩,
   ⟨(some 15), .mv (.t 3), [9], (some (9, false))⟩,
   ⟨(some 16), .idxS (.t 14) (.t 15), [10, 11, 9], (some (9, false))⟩,
   ⟨(some 17), .call 24 [(.t 16)], [12, 9, 9], (some (9, false))⟩,
   ⟨(some 18), .pick (.t 13) (.c (.p (.bool true))) (.t 17), [9, 13, 4], (some (4, true))⟩,
   ⟨(some 19), .pick (.t 8) (.t 18) (.c (.p (.bool false))), [4, 14], none⟩]
def vf18r3 : List VOper :=
  [⟨(some 20), .mv (.t 3), [], none⟩,
   ⟨(some 21), .bin Go.BinOp.add .no (.t 20) (.c (.p (.int Go.IntKind.i64 1))), [0], none⟩,
   ⟨(some 3), .asg (.t 21), [1, 0, 1], none⟩]
def vf18r4 : List VOper :=
  [⟨(some 22), .mv (.t 3), [], none⟩,
   ⟨(some 2), .asg (.t 22), [0, 0], none⟩]
def vf18 : VFun where
  vars := [0]
  boxes := []
  mv := []
  res := [(.t 2)]
  body := (.seq (.region none vf18r0 [0] [0])
 (.seq (.region none vf18r1 [0, 3] [0, 3])
 (.seq (.block 0 (.loop (.seq (.seq (.region none vf18r2 [0, 3, 19] [0, 3, 19])
 (.cond (.t 19) .skip
 (.exit 0)))
 (.block 1 (.region none vf18r3 [0, 3] [0, 3])))))
 (.seq (.region none vf18r4 [2, 3, 22] [2, 3, 22])
 .ret))))

def vf19r0 : List VOper :=
  [⟨(some 2), .asg (.c (.p (.bool false))), [], none⟩]
def vf19r1 : List VOper :=
  [⟨(some 4), .mv (.t 0), [], none⟩,
   ⟨(some 5), .len true (.t 4), [0], none⟩,
   ⟨(some 6), .mv (.c (.p (.int Go.IntKind.i64 0))), [], none⟩]
def vf19r2 : List VOper :=
  [⟨(some 7), .bin Go.BinOp.lss .no (.t 6) (.t 5), [], none⟩]
def vf19r3 : List VOper :=
  [⟨(some 8), .mv (.t 6), [], none⟩,
   ⟨(some 3), .asg (.t 8), [0, 0], none⟩]
def vf19r4 : List VOper :=
  [⟨(some 9), .mv (.t 0), [], none⟩,
   ⟨(some 10), .mv (.t 3), [], none⟩,
   ⟨(some 11), .idxS (.t 9) (.t 10), [0, 1], none⟩,
   ⟨(some 12), .call 24 [(.t 11)], [2], none⟩,
   ⟨(some 13), .un Go.UnOp.not (.t 12), [3], none⟩]
def vf19r5 : List VOper :=
  [⟨(some 2), .asg (.c (.p (.bool false))), [], none⟩]
def vf19r6 : List VOper :=
  [⟨(some 14), .bin Go.BinOp.add .no (.t 6) (.c (.p (.int Go.IntKind.i64 1))), [], none⟩,
   ⟨(some 6), .mv (.t 14), [0], none⟩]
def vf19r7 : List VOper :=
  [⟨(some 2), .asg (.c (.p (.bool true))), [], none⟩]
def vf19 : VFun where
  vars := [0]
  boxes := []
  mv := []
  res := [(.t 2)]
  body := (.seq (.region none vf19r0 [0] [0])
 (.seq (.seq (.region none vf19r1 [0, 5, 6] [0, 5, 6])
 (.block 0 (.loop (.seq (.region none vf19r2 [0, 5, 6, 7] [0, 5, 6, 7])
 (.seq (.cond (.t 7) .skip
 (.exit 0))
 (.seq (.block 1 (.seq (.region none vf19r3 [0, 3, 5, 6, 8] [0, 3, 5, 6, 8])
 (.seq (.region none vf19r4 [0, 5, 6, 13] [0, 5, 6, 13])
 (.cond (.t 13) (.seq (.region none vf19r5 [2] [2])
 .ret)
 .skip))))
 (.region none vf19r6 [0, 5, 6] [0, 5, 6])))))))
 (.seq (.region none vf19r7 [2] [2])
 .ret)))

def vf20r0 : List VOper :=
  [⟨(some 2), .alloc false [(.int Go.IntKind.i64 0), (.str []), (.int Go.IntKind.i64 0), (.int Go.IntKind.i64 0)], [], none⟩,
   ⟨(some 3), .asg (.c (.p (.int Go.IntKind.i64 0))), [], none⟩]
def vf20r1 : List VOper :=
  [⟨(some 7), .mv (.t 0), [], none⟩,
   ⟨(some 8), .len true (.t 7), [0], none⟩,
   ⟨(some 9), .bin Go.BinOp.gtr .no (.t 8) (.c (.p (.int Go.IntKind.i64 6))), [1], none⟩,
   ⟨(some 6), .asg (.t 9), [2], none⟩]
def vf20r2 : List VOper :=
  [⟨(some 10), .build [(.p (.int Go.IntKind.i64 0)), (.p (.str [])), (.p (.int Go.IntKind.i64 0)), (.p (.int Go.IntKind.i64 0))] [], [], none⟩,
   ⟨none, .store 4 (.t 2) (.t 10), [0, 0], none⟩,
   ⟨(some 3), .asg (.c (.p (.int Go.IntKind.i64 6))), [1, 0, 1], none⟩]
def vf20r3 : List VOper :=
  [⟨(some 12), .mv (.t 0), [], none⟩,
   ⟨(some 13), .len true (.t 12), [0], none⟩,
   ⟨(some 14), .bin Go.BinOp.gtr .no (.t 13) (.c (.p (.int Go.IntKind.i64 1))), [1], none⟩,
   ⟨(some 15), .mv (.t 14), [2], none⟩,
   ⟨(some 16), .mv (.t 0), [3], (some (3, true))⟩,
   ⟨(some 17), .idxS (.t 16) (.c (.p (.int Go.IntKind.i64 0))), [4, 3], (some (3, true))⟩,
   ⟨(some 18), .bin Go.BinOp.eql .no (.t 17) (.c (.p (.int Go.IntKind.u8 48))), [5, 3], (some (3, true))⟩,
   ⟨(some 19), .pick (.t 15) (.t 18) (.c (.p (.bool false))), [3, 6], none⟩,
   ⟨(some 11), .asg (.t 19), [7, 3], none⟩]
def vf20r4 : List VOper :=
  [⟨(some 20), .build [(.p (.int Go.IntKind.i64 0)), (.p (.str [])), (.p (.int Go.IntKind.i64 0)), (.p (.int Go.IntKind.i64 0))] [], [], none⟩,
   ⟨none, .store 4 (.t 2) (.t 20), [0, 0], none⟩,
   ⟨(some 3), .asg (.c (.p (.int Go.IntKind.i64 20))), [1, 0, 1], none⟩]
def vf20r5 : List VOper :=
  [⟨(some 4), .asg (.c (.p (.int Go.IntKind.i64 0))), [], none⟩]
def vf20r6 : List VOper :=
  [⟨(some 21), .mv (.t 0), [], none⟩,
   ⟨(some 22), .len true (.t 21), [0], none⟩,
   ⟨(some 23), .mv (.c (.p (.int Go.IntKind.i64 0))), [], none⟩]
def vf20r7 : List VOper :=
  [⟨(some 24), .bin Go.BinOp.lss .no (.t 23) (.t 22), [], none⟩]
def vf20r8 : List VOper :=
  [⟨(some 25), .mv (.t 23), [], none⟩,
   ⟨(some 5), .asg (.t 25), [0, 0], none⟩]
def vf20r9 : List VOper :=
  [⟨(some 26), .mv (.t 4), [], none⟩,
   ⟨(some 27), .bin Go.BinOp.mul .no (.c (.p (.int Go.IntKind.i64 10))) (.t 26), [0], none⟩,
   ⟨(some 28), .mv (.t 0), [], none⟩,
   ⟨(some 29), .mv (.t 5), [], none⟩,
   ⟨(some 30), .idxS (.t 28) (.t 29), [2, 3], none⟩,
   ⟨(some 31), .bin Go.BinOp.sub .no (.t 30) (.c (.p (.int Go.IntKind.u8 48))), [4], none⟩,
   ⟨(some 32), .conv (.int Go.IntKind.i64) (.t 31), [5], none⟩,
   ⟨(some 33), .bin Go.BinOp.add .no (.t 27) (.t 32), [1, 6], none⟩,
   ⟨(some 4), .asg (.t 33), [7, 0, 1, 2, 3, 4, 5, 6, 7], none⟩]
def vf20r10 : List VOper :=
  [⟨(some 34), .bin Go.BinOp.add .no (.t 23) (.c (.p (.int Go.IntKind.i64 1))), [], none⟩,
   ⟨(some 23), .mv (.t 34), [0], none⟩]
def vf20r11 : List VOper :=
  [⟨(some 35), .mv (.t 0), [], none⟩,
   ⟨(some 36), .mv (.t 4), [], none⟩,
   ⟨(some 37), .build [(.p (.int Go.IntKind.i64 0)), (.p (.str [])), (.p (.int Go.IntKind.i64 0)), (.p (.int Go.IntKind.i64 0))] [(0, 1, (.c (.p (.int Go.IntKind.i64 2)))), (1, 1, (.t 35)), (2, 1, (.t 36))], [0, 1], none⟩,
   ⟨none, .store 4 (.t 2) (.t 37), [2, 0, 1, 2], none⟩,
   ⟨(some 3), .asg (.c (.p (.int Go.IntKind.i64 0))), [3, 0, 1, 2, 3], none⟩]
def vf20 : VFun where
  vars := [0]
  boxes := [2]
  mv := []
  res := [(.cell 2 (some 4)), (.t 3)]
  body := (.seq (.region none vf20r0 [0, 2] [0, 2])
 (.seq (.block 0 (.seq (.region none vf20r1 [0, 2, 6] [0, 2, 6])
 (.cond (.t 6) (.seq (.region none vf20r2 [2, 3] [2, 3])
 .ret)
 (.seq (.region none vf20r3 [0, 2, 11, 19] [0, 2, 11, 19])
 (.cond (.t 11) (.seq (.region none vf20r4 [2, 3] [2, 3])
 .ret)
 .skip)))))
 (.seq (.region none vf20r5 [0, 2, 4] [0, 2, 4])
 (.seq (.seq (.region none vf20r6 [0, 2, 4, 22, 23] [0, 2, 4, 22, 23])
 (.block 1 (.loop (.seq (.region none vf20r7 [0, 2, 4, 22, 23, 24] [0, 2, 4, 22, 23, 24])
 (.seq (.cond (.t 24) .skip
 (.exit 1))
 (.seq (.block 2 (.seq (.region none vf20r8 [0, 2, 4, 5, 22, 23, 25] [0, 2, 4, 5, 22, 23, 25])
 (.region none vf20r9 [0, 2, 4, 22, 23] [0, 2, 4, 22, 23])))
 (.region none vf20r10 [0, 2, 4, 22, 23] [0, 2, 4, 22, 23])))))))
 (.seq (.region none vf20r11 [2, 3] [2, 3])
 .ret)))))

def vf21r0 : List VOper :=
  [⟨(some 2), .asg (.c (.p (.bool false))), [], none⟩]
def vf21r1 : List VOper :=
  [⟨(some 3), .mv (.t 0), [], none⟩,
   ⟨(some 4), .bin Go.BinOp.geq .no (.t 3) (.c (.p (.int Go.IntKind.u8 97))), [0], none⟩,
   ⟨(some 5), .mv (.t 4), [1], none⟩,
   ⟨(some 6), .mv (.t 0), [2], (some (2, true))⟩,
   ⟨(some 7), .bin Go.BinOp.leq .no (.t 6) (.c (.p (.int Go.IntKind.u8 122))), [3, 2], (some (2, true))⟩,
   ⟨(some 8), .pick (.t 5) (.t 7) (.c (.p (.bool false))), [2, 4], none⟩,
   ⟨(some 2), .asg (.t 8), [5, 2, 0, 1, 2, 3, 4, 5], none⟩]
def vf21 : VFun where
  vars := [0]
  boxes := []
  mv := []
  res := [(.t 2)]
  body := (.seq (.region none vf21r0 [0] [0])
 (.seq (.region none vf21r1 [2, 8] [2, 8])
 .ret))

def vf22r0 : List VOper :=
  [⟨(some 4), .asg (.c (.p (.bool false))), [], none⟩]
def vf22r1 : List VOper :=
  [⟨(some 5), .mv (.t 0), [], none⟩,
   ⟨(some 6), .mv (.t 1), [], none⟩,
   ⟨(some 7), .call 25 [(.t 5), (.t 6)], [0, 1], none⟩,
   ⟨(some 4), .asg (.t 7), [2, 2, 0, 1, 2], none⟩]
def vf22 : VFun where
  vars := [0, 1]
  boxes := []
  mv := []
  res := [(.t 4)]
  body := (.seq (.region none vf22r0 [0, 1] [0, 1])
 (.seq (.region none vf22r1 [4, 7] [4, 7])
 .ret))

def vf23r0 : List VOper :=
  [⟨(some 4), .asg (.c (.p (.int Go.IntKind.i64 0))), [], none⟩]
def vf23r1 : List VOper :=
  [⟨(some 5), .mv (.t 0), [], none⟩,
   ⟨(some 6), .mv (.t 1), [], none⟩,
   ⟨(some 7), .call 26 [(.t 5), (.t 6)], [0, 1], none⟩,
   ⟨(some 4), .asg (.t 7), [2, 2, 0, 1, 2], none⟩]
def vf23 : VFun where
  vars := [0, 1]
  boxes := []
  mv := []
  res := [(.t 4)]
  body := (.seq (.region none vf23r0 [0, 1] [0, 1])
 (.seq (.region none vf23r1 [4, 7] [4, 7])
 .ret))

def vf24r0 : List VOper :=
  [⟨(some 2), .asg (.c (.p (.bool false))), [], none⟩]
def vf24r1 : List VOper :=
  [⟨(some 3), .mv (.t 0), [], none⟩,
   ⟨(some 4), .bin Go.BinOp.geq .no (.t 3) (.c (.p (.int Go.IntKind.u8 48))), [0], none⟩,
   ⟨(some 5), .mv (.t 4), [1], none⟩,
   ⟨(some 6), .mv (.t 0), [2], (some (2, true))⟩,
   ⟨(some 7), .bin Go.BinOp.leq .no (.t 6) (.c (.p (.int Go.IntKind.u8 57))), [3, 2], (some (2, true))⟩,
   ⟨(some 8), .pick (.t 5) (.t 7) (.c (.p (.bool false))), [2, 4], none⟩,
   ⟨(some 2), .asg (.t 8), [5, 2, 0, 1, 2, 3, 4, 5], none⟩]
def vf24 : VFun where
  vars := [0]
  boxes := []
  mv := []
  res := [(.t 2)]
  body := (.seq (.region none vf24r0 [0] [0])
 (.seq (.region none vf24r1 [2, 8] [2, 8])
 .ret))

def vf25r0 : List VOper :=
  [⟨(some 4), .asg (.c (.p (.bool false))), [], none⟩]
def vf25r1 : List VOper :=
  [⟨(some 5), .mv (.t 0), [], none⟩,
   ⟨(some 6), .len true (.t 5), [0], none⟩,
   ⟨(some 7), .mv (.t 1), [], none⟩,
   ⟨(some 8), .len true (.t 7), [2], none⟩,
   ⟨(some 9), .bin Go.BinOp.geq .no (.t 6) (.t 8), [1, 3], none⟩,
   ⟨(some 10), .mv (.t 9), [4], none⟩,
   ⟨(some 11), .mv (.t 0), [5], (some (5, true))⟩,
   ⟨(some 12), .mv (.t 1), [5], (some (5, true))⟩,
   ⟨(some 13), .len true (.t 12), [7, 5], (some (5, true))⟩,
   ⟨(some 14), .slc true 1 (.t 11) none (some (.t 13)) none, [6, 8, 5], (some (5, true))⟩,
   ⟨(some 15), .mv (.t 1), [5], (some (5, true))⟩,
   ⟨(some 16), .bin Go.BinOp.eql .no (.t 14) (.t 15), [9, 10, 5], (some (5, true))⟩,
   ⟨(some 17), .pick (.t 10) (.t 16) (.c (.p (.bool false))), [5, 11], none⟩,
   ⟨(some 4), .asg (.t 17), [12, 5, 0, 1, 2, 3, 4, 5, 6, 7, 8, 9, 10, 11, 12], none⟩]
def vf25 : VFun where
  vars := [0, 1]
  boxes := []
  mv := []
  res := [(.t 4)]
  body := (.seq (.region none vf25r0 [0, 1] [0, 1])
 (.seq (.region none vf25r1 [4, 17] [4, 17])
 .ret))


def nonro : List Nat := []
def ro (f : Nat) : Bool := !nonro.contains f
def fl : List (Nat × VFun) := [(3, vf3), (4, vf4), (5, vf5), (7, vf7), (8, vf8), (9, vf9), (10, vf10), (13, vf13), (14, vf14), (15, vf15), (16, vf16), (17, vf17), (18, vf18), (19, vf19), (20, vf20), (21, vf21), (22, vf22), (23, vf23), (24, vf24), (25, vf25)]
/-- the table, its functions a name -/
def T' (fns : Nat → Option VFun) (pr : Nat → Option Prim) : Tab where
  fns := fns
  ro := ro
  prim := pr
/-- the table with these functions by hand -/
abbrev T (ps : List (Nat × Prim)) : Tab := T' (look fl) (look ps)

theorem ok3 : funOf Try.prog ro [] Try.f3 = some vf3 := by kernel_rfl
theorem ok4 : funOf Try.prog ro [] Try.f4 = some vf4 := by kernel_rfl
theorem ok5 : funOf Try.prog ro [] Try.f5 = some vf5 := by kernel_rfl
theorem ok7 : funOf Try.prog ro [] Try.f7 = some vf7 := by kernel_rfl
theorem ok8 : funOf Try.prog ro [] Try.f8 = some vf8 := by kernel_rfl
theorem ok9 : funOf Try.prog ro [] Try.f9 = some vf9 := by kernel_rfl
theorem ok10 : funOf Try.prog ro [] Try.f10 = some vf10 := by kernel_rfl
theorem ok13 : funOf Try.prog ro [] Try.f13 = some vf13 := by kernel_rfl
theorem ok14 : funOf Try.prog ro [] Try.f14 = some vf14 := by kernel_rfl
theorem ok15 : funOf Try.prog ro [] Try.f15 = some vf15 := by kernel_rfl
theorem ok16 : funOf Try.prog ro [] Try.f16 = some vf16 := by kernel_rfl
theorem ok17 : funOf Try.prog ro [] Try.f17 = some vf17 := by kernel_rfl
theorem ok18 : funOf Try.prog ro [] Try.f18 = some vf18 := by kernel_rfl
theorem ok19 : funOf Try.prog ro [] Try.f19 = some vf19 := by kernel_rfl
theorem ok20 : funOf Try.prog ro [] Try.f20 = some vf20 := by kernel_rfl
theorem ok21 : funOf Try.prog ro [] Try.f21 = some vf21 := by kernel_rfl
theorem ok22 : funOf Try.prog ro [] Try.f22 = some vf22 := by kernel_rfl
theorem ok23 : funOf Try.prog ro [] Try.f23 = some vf23 := by kernel_rfl
theorem ok24 : funOf Try.prog ro [] Try.f24 = some vf24 := by kernel_rfl
theorem ok25 : funOf Try.prog ro [] Try.f25 = some vf25 := by kernel_rfl

theorem look_mem {α : Type} : ∀ {l : List (Nat × α)} {k : Nat} {v : α}, look l k = some v → (k, v) ∈ l
  | [], _, _, h => by simp [look] at h
  | (j, u) :: r, k, v, h => by
    unfold look at h
    split at h
    · rename_i e; subst e; simp only [Option.some.injEq] at h; subst h; simp
    · exact List.mem_cons_of_mem _ (look_mem h)

theorem mixed : Try.prog.follows .mixedOrders = true := by kernel_rfl
theorem tabOk (ps : List (Nat × Prim)) : TabOk Try.prog (T ps) := by
  intro f vf h
  have hm := look_mem (show look fl f = some vf from h)
  simp only [fl, List.mem_cons, Prod.mk.injEq, List.not_mem_nil, or_false] at hm
  rcases hm with ⟨rfl, rfl⟩ | ⟨rfl, rfl⟩ | ⟨rfl, rfl⟩ | ⟨rfl, rfl⟩ | ⟨rfl, rfl⟩ | ⟨rfl, rfl⟩ | ⟨rfl, rfl⟩ | ⟨rfl, rfl⟩ | ⟨rfl, rfl⟩ | ⟨rfl, rfl⟩ | ⟨rfl, rfl⟩ | ⟨rfl, rfl⟩ | ⟨rfl, rfl⟩ | ⟨rfl, rfl⟩ | ⟨rfl, rfl⟩ | ⟨rfl, rfl⟩ | ⟨rfl, rfl⟩ | ⟨rfl, rfl⟩ | ⟨rfl, rfl⟩ | ⟨rfl, rfl⟩
  · exact ⟨Try.f3, ro, [], Try.func3, by decide +kernel, ok3⟩
  · exact ⟨Try.f4, ro, [], Try.func4, by decide +kernel, ok4⟩
  · exact ⟨Try.f5, ro, [], Try.func5, by decide +kernel, ok5⟩
  · exact ⟨Try.f7, ro, [], Try.func7, by decide +kernel, ok7⟩
  · exact ⟨Try.f8, ro, [], Try.func8, by decide +kernel, ok8⟩
  · exact ⟨Try.f9, ro, [], Try.func9, by decide +kernel, ok9⟩
  · exact ⟨Try.f10, ro, [], Try.func10, by decide +kernel, ok10⟩
  · exact ⟨Try.f13, ro, [], Try.func13, by decide +kernel, ok13⟩
  · exact ⟨Try.f14, ro, [], Try.func14, by decide +kernel, ok14⟩
  · exact ⟨Try.f15, ro, [], Try.func15, by decide +kernel, ok15⟩
  · exact ⟨Try.f16, ro, [], Try.func16, by decide +kernel, ok16⟩
  · exact ⟨Try.f17, ro, [], Try.func17, by decide +kernel, ok17⟩
  · exact ⟨Try.f18, ro, [], Try.func18, by decide +kernel, ok18⟩
  · exact ⟨Try.f19, ro, [], Try.func19, by decide +kernel, ok19⟩
  · exact ⟨Try.f20, ro, [], Try.func20, by decide +kernel, ok20⟩
  · exact ⟨Try.f21, ro, [], Try.func21, by decide +kernel, ok21⟩
  · exact ⟨Try.f22, ro, [], Try.func22, by decide +kernel, ok22⟩
  · exact ⟨Try.f23, ro, [], Try.func23, by decide +kernel, ok23⟩
  · exact ⟨Try.f24, ro, [], Try.func24, by decide +kernel, ok24⟩
  · exact ⟨Try.f25, ro, [], Try.func25, by decide +kernel, ok25⟩
theorem prim26 : QPrimOk Try.prog 26 indexByteF := indexByte_prim Try.func26 (by kernel_rfl) (by kernel_rfl) (by kernel_rfl) (by kernel_rfl)

theorem prims_nil : PrimOk Try.prog (T []) := fun f p h => by simp [T, T', look] at h
theorem prims_q {f : Nat} {F : List SV → Option SV} {ps : List (Nat × Prim)} (h : QPrimOk Try.prog f F) (k : PrimOk Try.prog (T ps)) : PrimOk Try.prog (T ((f, .q F) :: ps)) := by
  intro g p e
  simp only [T, T', look] at e
  split at e
  · rename_i e'; subst e'; simp only [Option.some.injEq] at e; subst e; exact h
  · exact k g p e
/-- a function that the machine has run on plain values -/
theorem pureQ {ps : List (Nat × Prim)} (k : PrimOk Try.prog (T ps)) {f : Nat} {F : List SV → Option SV}
    (h : ∀ args v, F args = some v → args.all plainA = true ∧ okRet 0 0 v = true ∧ ∃ hp' out', CallsTo (T ps) ⟨0, 0⟩ f args [] [] (v, hp', out')) : QPrimOk Try.prog f F :=
  pure_prim mixed (tabOk ps) k fun args v e => by
    obtain ⟨h1, h2, hp', out', n, h3⟩ := h args v e
    exact ⟨h1, h2, n, hp', out', h3 n (Nat.le_refl _)⟩
end Go.Proofs.Ytkkainkhjimcmaa.L
