import Derived.Test.YtkkainkhjimcmaaChecked
import Derived.Test.YtkkainkhjimcmaaVG
/-
The machine's code of the functions that are reached, and that it is the translated program's. Printed by program.
-/
namespace Go.Proofs.Ytkkainkhjimcmaa.L
open Go Go.VM
set_option linter.unusedVariables false

def look {α : Type} : List (Nat × α) → Nat → Option α
  | [], _ => none
  | (j, v) :: r, k => if j = k then some v else look r k
def vf6r0 : List VOper :=
  [⟨(some 2), .asg (.c (.p (.bool false))), [], none⟩]
def vf6r1 : List VOper :=
  [⟨(some 3), .mv (.t 0), [], none⟩,
   ⟨(some 4), .call 11 [(.t 3)], [0], none⟩,
   ⟨(some 5), .mv (.t 0), [], none⟩,
   ⟨(some 6), .call 12 [(.t 5)], [2, 1], none⟩,
   ⟨(some 7), .bin Go.BinOp.eql .bool (.t 4) (.t 6), [1, 3], none⟩,
   ⟨(some 8), .mv (.t 7), [4, 3], none⟩,
   ⟨(some 9), .call 10 [], [5, 5], (some (5, true))⟩,
   ⟨(some 10), .pick (.t 8) (.t 9) (.c (.p (.bool false))), [5, 6], none⟩,
   ⟨(some 2), .asg (.t 10), [7, 6, 0, 1, 2, 3, 4, 5, 6, 7], none⟩]
def vf6 : VFun where
  vars := [0, 9]
  boxes := []
  mv := []
  res := [(.t 2)]
  body := (.seq (.region none vf6r0 [0, 9] [0, 9])
 (.seq (.region none vf6r1 [2, 10] [2, 10])
 .ret))

def vf7r0 : List VOper :=
  [⟨(some 2), .asg (.c (.p .nils)), [], none⟩,
   ⟨(some 3), .asg (.c (.p (.int Go.IntKind.i64 0))), [0], none⟩,
   ⟨(some 4), .asg (.c (.p (.int Go.IntKind.i64 0))), [1], none⟩]
def vf7r1 : List VOper :=
  [⟨(some 9), .mv (.t 0), [], none⟩,
   ⟨(some 10), .len true (.t 9), [0], none⟩,
   ⟨(some 11), .bin Go.BinOp.gtr .no (.t 10) (.c (.p (.int Go.IntKind.i64 4096))), [1], none⟩]
def vf7r2 : List VOper :=
  [⟨(some 2), .asg (.c (.p .nils)), [], none⟩,
   ⟨(some 3), .asg (.c (.p (.int Go.IntKind.i64 0))), [0, 0], none⟩,
   ⟨(some 4), .asg (.c (.p (.int Go.IntKind.i64 6))), [1, 0, 1], none⟩]
def vf7r3 : List VOper :=
  [⟨(some 5), .asg (.c (.p .nils)), [], none⟩]
def vf7r4 : List VOper :=
  [⟨(some 12), .mv (.t 0), [], none⟩,
   ⟨(some 13), .call 13 [(.t 12), (.c (.p (.int Go.IntKind.i64 0)))], [0], none⟩,
   ⟨(some 6), .asg (.t 13), [1, 1, 0, 1], none⟩]
def vf7r5 : List VOper :=
  [⟨(some 14), .mv (.t 6), [], none⟩,
   ⟨(some 15), .mv (.t 0), [], none⟩,
   ⟨(some 16), .len true (.t 15), [1], none⟩,
   ⟨(some 17), .bin Go.BinOp.lss .no (.t 14) (.t 16), [0, 2], none⟩]
def vf7r6 : List VOper :=
  [⟨(some 22), .mv (.t 0), [], none⟩,
   ⟨(some 23), .mv (.t 6), [], none⟩,
   ⟨(some 24), .slc true 1 (.t 22) (some (.t 23)) none none, [0, 1], none⟩,
   ⟨(some 25), .call 14 [(.t 24)], [2], none⟩,
   ⟨(some 21), .mv (.t 25), [3], none⟩,
   ⟨(some 26), .ext (.t 21) 0, [4], none⟩,
   ⟨(some 27), .ext (.t 21) 1, [4], none⟩,
   ⟨(some 7), .alloc false [(.int Go.IntKind.i64 0), (.str []), (.int Go.IntKind.i64 0), (.int Go.IntKind.i64 0)], [], none⟩,
   ⟨none, .store 4 (.t 7) (.t 26), [7, 5, 3, 0, 1, 2, 3, 4, 5, 7], none⟩,
   ⟨(some 8), .asg (.t 27), [6, 8, 0, 1, 2, 3, 4, 5, 6, 7, 8], none⟩]
def vf7r7 : List VOper :=
  [⟨(some 28), .mv (.t 8), [], none⟩,
   ⟨(some 29), .bin Go.BinOp.neq .no (.t 28) (.c (.p (.int Go.IntKind.i64 0))), [0], none⟩]
def vf7r8 : List VOper :=
  [⟨(some 30), .mv (.t 6), [], none⟩,
   ⟨(some 31), .mv (.t 8), [], none⟩,
   ⟨(some 2), .asg (.c (.p .nils)), [], none⟩,
   ⟨(some 3), .asg (.t 30), [0, 2, 0, 2], none⟩,
   ⟨(some 4), .asg (.t 31), [1, 3, 0, 1, 2, 3], none⟩]
def vf7r9 : List VOper :=
  [⟨(some 32), .mv (.t 6), [], none⟩,
   ⟨(some 33), .faddr 3 (.t 7), [0], none⟩,
   ⟨none, .store 1 (.t 33) (.t 32), [1, 0, 0], none⟩]
def vf7r10 : List VOper :=
  [⟨(some 34), .mv (.t 6), [], none⟩,
   ⟨(some 35), .faddr 1 (.t 7), [], none⟩,
   ⟨(some 36), .load none (.t 35), [1], none⟩,
   ⟨(some 37), .len true (.t 36), [2], none⟩,
   ⟨(some 38), .bin Go.BinOp.add .no (.t 34) (.t 37), [0, 3], none⟩,
   ⟨(some 6), .asg (.t 38), [4, 0, 1, 2, 3, 4], none⟩]
def vf7r11 : List VOper :=
  [⟨(some 39), .mv (.t 5), [], none⟩,
   ⟨(some 40), .load (some 4) (.t 7), [], none⟩,
   ⟨(some 41), .lit 4 [(.int Go.IntKind.i64 0), (.str []), (.int Go.IntKind.i64 0), (.int Go.IntKind.i64 0)] 1 [(0, (.t 40))], [1], none⟩,
   ⟨(some 42), .append false 4 40 (.t 39) (.t 41), [0, 2], none⟩,
   ⟨(some 5), .asg (.t 42), [3, 3, 0, 1, 2, 3], none⟩]
def vf7r12 : List VOper :=
  [⟨(some 18), .mv (.t 0), [], none⟩,
   ⟨(some 19), .mv (.t 6), [], none⟩,
   ⟨(some 20), .call 13 [(.t 18), (.t 19)], [0, 1], none⟩,
   ⟨(some 6), .asg (.t 20), [2, 2, 0, 1, 2], none⟩]
def vf7r13 : List VOper :=
  [⟨(some 43), .mv (.t 5), [], none⟩,
   ⟨(some 2), .asg (.t 43), [0, 0], none⟩,
   ⟨(some 3), .asg (.c (.p (.int Go.IntKind.i64 0))), [1, 0, 1], none⟩,
   ⟨(some 4), .asg (.c (.p (.int Go.IntKind.i64 0))), [2, 0, 1, 2], none⟩]
def vf7 : VFun where
  vars := [0]
  boxes := [7]
  mv := []
  res := [(.t 2), (.t 3), (.t 4)]
  body := (.seq (.region none vf7r0 [0] [0])
 (.seq (.seq (.region none vf7r1 [0, 11] [0, 11])
 (.cond (.t 11) (.seq (.region none vf7r2 [2, 3, 4, 5, 6, 8, 13, 20, 27, 30, 31, 38, 42, 43] [2, 3, 4, 5, 6, 8, 13, 20, 27, 30, 31, 38, 42, 43])
 .ret)
 .skip))
 (.seq (.region none vf7r3 [0, 5, 42] [0, 5, 42])
 (.seq (.seq (.region none vf7r4 [0, 5, 6, 13, 20, 38, 42] [0, 5, 6, 13, 20, 38, 42])
 (.block 0 (.loop (.seq (.seq (.region none vf7r5 [0, 5, 6, 13, 17, 20, 38, 42] [0, 5, 6, 13, 17, 20, 38, 42])
 (.cond (.t 17) .skip
 (.exit 0)))
 (.seq (.block 1 (.seq (.region none vf7r6 [0, 5, 6, 7, 8, 13, 20, 27, 38, 42] [0, 5, 6, 7, 8, 13, 20, 27, 38, 42])
 (.seq (.seq (.region none vf7r7 [0, 5, 6, 7, 8, 13, 20, 27, 29, 38, 42] [0, 5, 6, 7, 8, 13, 20, 27, 29, 38, 42])
 (.cond (.t 29) (.seq (.region none vf7r8 [2, 3, 4, 5, 6, 8, 13, 20, 27, 30, 31, 38, 42, 43] [2, 3, 4, 5, 6, 8, 13, 20, 27, 30, 31, 38, 42, 43])
 .ret)
 .skip))
 (.seq (.region none vf7r9 [0, 5, 6, 7, 13, 20, 38, 42] [0, 5, 6, 7, 13, 20, 38, 42])
 (.seq (.region none vf7r10 [0, 5, 6, 7, 13, 20, 38, 42] [0, 5, 6, 7, 13, 20, 38, 42])
 (.region none vf7r11 [0, 5, 6, 13, 20, 38, 42] [0, 5, 6, 13, 20, 38, 42]))))))
 (.region none vf7r12 [0, 5, 6, 13, 20, 38, 42] [0, 5, 6, 13, 20, 38, 42]))))))
 (.seq (.region none vf7r13 [2, 3, 4, 5, 6, 8, 13, 20, 27, 30, 31, 38, 42, 43] [2, 3, 4, 5, 6, 8, 13, 20, 27, 30, 31, 38, 42, 43])
 .ret)))))

def vf10r0 : List VOper :=
  [⟨(some 0), .asg (.c (.p (.bool false))), [], none⟩]
def vf10r1 : List VOper :=
  [⟨(some 5), .call 7 [(.c (.p (.str [118, 105, 97, 32, 51, 58, 32, 97, 45, 62, 98, 59])))], [], none⟩,
   ⟨(some 4), .mv (.t 5), [0], none⟩,
   ⟨(some 6), .ext (.t 4) 0, [1], none⟩,
   ⟨(some 7), .ext (.t 4) 1, [1], none⟩,
   ⟨(some 8), .ext (.t 4) 2, [1], none⟩,
   ⟨(some 1), .asg (.t 6), [2, 0, 0, 1, 2], none⟩,
   ⟨(some 2), .asg (.t 7), [3, 5, 0, 1, 2, 3, 5], none⟩,
   ⟨(some 3), .asg (.t 8), [4, 6, 0, 1, 2, 3, 4, 5, 6], none⟩]
def vf10r2 : List VOper :=
  [⟨(some 9), .mv (.t 3), [], none⟩,
   ⟨(some 10), .bin Go.BinOp.eql .no (.t 9) (.c (.p (.int Go.IntKind.i64 0))), [0], none⟩,
   ⟨(some 11), .mv (.t 10), [1], none⟩,
   ⟨(some 12), .mv (.t 1), [2], (some (2, true))⟩,
   ⟨(some 13), .len false (.t 12), [3, 2], (some (2, true))⟩,
   ⟨(some 14), .bin Go.BinOp.eql .no (.t 13) (.c (.p (.int Go.IntKind.i64 7))), [4, 2], (some (2, true))⟩,
   ⟨(some 15), .pick (.t 11) (.t 14) (.c (.p (.bool false))), [2, 5], none⟩,
   ⟨(some 16), .mv (.t 15), [6, 2], none⟩,
   ⟨(some 17), .mv (.t 1), [7], (some (7, true))⟩,
   ⟨(some 18), .iaddrS 4 (.t 17) (.c (.p (.int Go.IntKind.i64 1))), [8, 7], (some (7, true))⟩,
   ⟨(some 19), .faddr 2 (.t 18), [9, 7], (some (7, true))⟩,
   ⟨(some 20), .load none (.t 19), [10, 7], (some (7, true))⟩,
   ⟨(some 21), .bin Go.BinOp.eql .no (.t 20) (.c (.p (.int Go.IntKind.i64 3))), [11, 7], (some (7, true))⟩,
   ⟨(some 22), .pick (.t 16) (.t 21) (.c (.p (.bool false))), [7, 12], none⟩,
   ⟨(some 23), .mv (.t 22), [13, 7], none⟩,
   ⟨(some 24), .mv (.t 1), [14], (some (14, true))⟩,
   ⟨(some 25), .iaddrS 4 (.t 24) (.c (.p (.int Go.IntKind.i64 4))), [15, 14], (some (14, true))⟩,
   ⟨(some 26), .faddr 1 (.t 25), [16, 14], (some (14, true))⟩,
   ⟨(some 27), .load none (.t 26), [17, 14], (some (14, true))⟩,
   ⟨(some 28), .bin Go.BinOp.eql .no (.t 27) (.c (.p (.str [45, 62]))), [18, 14], (some (14, true))⟩,
   ⟨(some 29), .pick (.t 23) (.t 28) (.c (.p (.bool false))), [14, 19], none⟩,
   ⟨(some 30), .mv (.t 29), [20, 14], none⟩,
   ⟨(some 31), .mv (.t 1), [21], (some (21, true))⟩,
   ⟨(some 32), .iaddrS 4 (.t 31) (.c (.p (.int Go.IntKind.i64 4))), [22, 21], (some (21, true))⟩,
   ⟨(some 33), .faddr 3 (.t 32), [23, 21], (some (21, true))⟩,
   ⟨(some 34), .load none (.t 33), [24, 21], (some (21, true))⟩,
   ⟨(some 35), .bin Go.BinOp.eql .no (.t 34) (.c (.p (.int Go.IntKind.i64 8))), [25, 21], (some (21, true))⟩,
   ⟨(some 36), .pick (.t 30) (.t 35) (.c (.p (.bool false))), [21, 26], none⟩,
   ⟨(some 37), .mv (.t 36), [27, 21], none⟩,
   ⟨(some 38), .mv (.t 1), [28], (some (28, true))⟩,
   ⟨(some 39), .iaddrS 4 (.t 38) (.c (.p (.int Go.IntKind.i64 6))), [29, 28], (some (28, true))⟩,
   ⟨(some 40), .faddr 3 (.t 39), [30, 28], (some (28, true))⟩,
   ⟨(some 41), .load none (.t 40), [31, 28], (some (28, true))⟩,
   ⟨(some 42), .bin Go.BinOp.eql .no (.t 41) (.c (.p (.int Go.IntKind.i64 11))), [32, 28], (some (28, true))⟩,
   ⟨(some 43), .pick (.t 37) (.t 42) (.c (.p (.bool false))), [28, 33], none⟩,
   ⟨(some 0), .asg (.t 43), [34, 28, 0, 1, 2, 3, 4, 5, 6, 7, 8, 9, 10, 11, 12, 13, 14, 15, 16, 17, 18, 19, 20, 21, 22, 23, 24, 25, 26, 27, 28, 29, 30, 31, 32, 33, 34], none⟩]
def vf10 : VFun where
  vars := [12, 13, 14, 17, 18, 19, 20, 21, 24, 25, 26, 27, 28, 31, 32, 33, 34, 35, 38, 39, 40, 41, 42]
  boxes := []
  mv := []
  res := [(.t 0)]
  body := (.seq (.region none vf10r0 [1, 6, 12, 13, 14, 17, 18, 19, 20, 21, 24, 25, 26, 27, 28, 31, 32, 33, 34, 35, 38, 39, 40, 41, 42] [1, 6, 12, 13, 14, 17, 18, 19, 20, 21, 24, 25, 26, 27, 28, 31, 32, 33, 34, 35, 38, 39, 40, 41, 42])
 (.seq (.region none vf10r1 [1, 3, 6, 8, 12, 13, 14, 17, 18, 19, 20, 21, 24, 25, 26, 27, 28, 31, 32, 33, 34, 35, 38, 39, 40, 41, 42] [1, 3, 6, 8, 12, 13, 14, 17, 18, 19, 20, 21, 24, 25, 26, 27, 28, 31, 32, 33, 34, 35, 38, 39, 40, 41, 42])
 (.seq (.region none vf10r2 [0, 43] [0, 43])
 .ret)))

def vf11r0 : List VOper :=
  [⟨(some 2), .asg (.c (.p (.bool false))), [], none⟩]
def vf11r1 : List VOper :=
  [⟨(some 3), .mv (.t 0), [], none⟩]
def vf11r2 : List VOper :=
  [⟨(some 5), .bin Go.BinOp.eql .no (.t 3) (.c (.p (.str [103, 114, 111, 117, 112]))), [], none⟩,
   ⟨(some 4), .asg (.t 5), [0], none⟩]
def vf11r3 : List VOper :=
  [⟨(some 6), .bin Go.BinOp.eql .no (.t 3) (.c (.p (.str [97, 108, 108, 111, 119]))), [], none⟩,
   ⟨(some 4), .asg (.t 6), [0], none⟩]
def vf11r4 : List VOper :=
  [⟨(some 7), .bin Go.BinOp.eql .no (.t 3) (.c (.p (.str [100, 101, 110, 121]))), [], none⟩,
   ⟨(some 4), .asg (.t 7), [0], none⟩]
def vf11r5 : List VOper :=
  [⟨(some 8), .bin Go.BinOp.eql .no (.t 3) (.c (.p (.str [111, 117, 116, 98, 111, 117, 110, 100]))), [], none⟩,
   ⟨(some 4), .asg (.t 8), [0], none⟩]
def vf11r6 : List VOper :=
  [⟨(some 9), .bin Go.BinOp.eql .no (.t 3) (.c (.p (.str [118, 105, 97]))), [], none⟩,
   ⟨(some 4), .asg (.t 9), [0], none⟩]
def vf11r7 : List VOper :=
  [⟨(some 10), .bin Go.BinOp.eql .no (.t 3) (.c (.p (.str [97, 110, 121]))), [], none⟩,
   ⟨(some 4), .asg (.t 10), [0], none⟩]
def vf11r8 : List VOper :=
  [⟨(some 11), .bin Go.BinOp.eql .no (.t 3) (.c (.p (.str [116, 99, 112]))), [], none⟩,
   ⟨(some 4), .asg (.t 11), [0], none⟩]
def vf11r9 : List VOper :=
  [⟨(some 12), .bin Go.BinOp.eql .no (.t 3) (.c (.p (.str [117, 100, 112]))), [], none⟩,
   ⟨(some 4), .asg (.t 12), [0], none⟩]
def vf11r10 : List VOper :=
  [⟨(some 13), .bin Go.BinOp.eql .no (.t 3) (.c (.p (.str [105, 112]))), [], none⟩,
   ⟨(some 4), .asg (.t 13), [0], none⟩]
def vf11r11 : List VOper :=
  [⟨(some 14), .bin Go.BinOp.eql .no (.t 3) (.c (.p (.str [112, 111, 114, 116]))), [], none⟩,
   ⟨(some 4), .asg (.t 14), [0], none⟩]
def vf11r12 : List VOper :=
  [⟨(some 2), .asg (.c (.p (.bool true))), [], none⟩]
def vf11r13 : List VOper :=
  [⟨(some 2), .asg (.c (.p (.bool false))), [], none⟩]
def vf11 : VFun where
  vars := [0]
  boxes := []
  mv := []
  res := [(.t 2)]
  body := (.seq (.region none vf11r0 [0] [0])
 (.seq (.seq (.region none vf11r1 [0, 3] [0, 3])
 (.block 0 (.seq (.seq (.region none vf11r2 [0, 3, 4, 5, 6, 7, 8, 9, 10, 11, 12, 13, 14] [0, 3, 4, 5, 6, 7, 8, 9, 10, 11, 12, 13, 14])
 (.cond (.t 4) .skip
 (.seq (.region none vf11r3 [0, 3, 4, 5, 6, 7, 8, 9, 10, 11, 12, 13, 14] [0, 3, 4, 5, 6, 7, 8, 9, 10, 11, 12, 13, 14])
 (.cond (.t 4) .skip
 (.seq (.region none vf11r4 [0, 3, 4, 5, 6, 7, 8, 9, 10, 11, 12, 13, 14] [0, 3, 4, 5, 6, 7, 8, 9, 10, 11, 12, 13, 14])
 (.cond (.t 4) .skip
 (.seq (.region none vf11r5 [0, 3, 4, 5, 6, 7, 8, 9, 10, 11, 12, 13, 14] [0, 3, 4, 5, 6, 7, 8, 9, 10, 11, 12, 13, 14])
 (.cond (.t 4) .skip
 (.seq (.region none vf11r6 [0, 3, 4, 5, 6, 7, 8, 9, 10, 11, 12, 13, 14] [0, 3, 4, 5, 6, 7, 8, 9, 10, 11, 12, 13, 14])
 (.cond (.t 4) .skip
 (.seq (.region none vf11r7 [0, 3, 4, 5, 6, 7, 8, 9, 10, 11, 12, 13, 14] [0, 3, 4, 5, 6, 7, 8, 9, 10, 11, 12, 13, 14])
 (.cond (.t 4) .skip
 (.seq (.region none vf11r8 [0, 3, 4, 5, 6, 7, 8, 9, 10, 11, 12, 13, 14] [0, 3, 4, 5, 6, 7, 8, 9, 10, 11, 12, 13, 14])
 (.cond (.t 4) .skip
 (.seq (.region none vf11r9 [0, 3, 4, 5, 6, 7, 8, 9, 10, 11, 12, 13, 14] [0, 3, 4, 5, 6, 7, 8, 9, 10, 11, 12, 13, 14])
 (.cond (.t 4) .skip
 (.seq (.region none vf11r10 [0, 3, 4, 5, 6, 7, 8, 9, 10, 11, 12, 13, 14] [0, 3, 4, 5, 6, 7, 8, 9, 10, 11, 12, 13, 14])
 (.cond (.t 4) .skip
 (.region none vf11r11 [4, 5, 6, 7, 8, 9, 10, 11, 12, 13, 14] [4, 5, 6, 7, 8, 9, 10, 11, 12, 13, 14])))))))))))))))))))
 (.cond (.t 4) (.seq (.region none vf11r12 [2] [2])
 .ret)
 .skip))))
 (.seq (.region none vf11r13 [2] [2])
 .ret)))

def vf12r0 : List VOper :=
  [⟨(some 2), .asg (.c (.p (.bool false))), [], none⟩]
def vf12r1 : List VOper :=
  [⟨(some 5), .lit 1 [(.str [])] 10 [(0, (.c (.p (.str [103, 114, 111, 117, 112])))), (1, (.c (.p (.str [97, 108, 108, 111, 119])))), (2, (.c (.p (.str [100, 101, 110, 121])))), (3, (.c (.p (.str [111, 117, 116, 98, 111, 117, 110, 100])))), (4, (.c (.p (.str [118, 105, 97])))), (5, (.c (.p (.str [97, 110, 121])))), (6, (.c (.p (.str [116, 99, 112])))), (7, (.c (.p (.str [117, 100, 112])))), (8, (.c (.p (.str [105, 112])))), (9, (.c (.p (.str [112, 111, 114, 116]))))], [], none⟩,
   ⟨(some 6), .len false (.t 5), [0], none⟩,
   ⟨(some 7), .mv (.c (.p (.int Go.IntKind.i64 0))), [], none⟩]
def vf12r2 : List VOper :=
  [⟨(some 8), .bin Go.BinOp.lss .no (.t 7) (.t 6), [], none⟩]
def vf12r3 : List VOper :=
  [⟨(some 9), .iaddrS 1 (.t 5) (.t 7), [], none⟩,
   ⟨(some 10), .load none (.t 9), [0], none⟩,
   ⟨(some 4), .asg (.t 10), [1, 0, 1], none⟩]
def vf12r4 : List VOper :=
  [⟨(some 11), .mv (.t 4), [], none⟩,
   ⟨(some 12), .mv (.t 0), [], none⟩,
   ⟨(some 13), .bin Go.BinOp.eql .no (.t 11) (.t 12), [0, 1], none⟩]
def vf12r5 : List VOper :=
  [⟨(some 2), .asg (.c (.p (.bool true))), [], none⟩]
def vf12r6 : List VOper :=
  [⟨(some 14), .bin Go.BinOp.add .no (.t 7) (.c (.p (.int Go.IntKind.i64 1))), [], none⟩,
   ⟨(some 7), .mv (.t 14), [0], none⟩]
def vf12r7 : List VOper :=
  [⟨(some 2), .asg (.c (.p (.bool false))), [], none⟩]
def vf12 : VFun where
  vars := [0]
  boxes := []
  mv := []
  res := [(.t 2)]
  body := (.seq (.region none vf12r0 [0] [0])
 (.seq (.seq (.region none vf12r1 [0, 5, 6, 7, 14] [0, 5, 6, 7, 14])
 (.block 0 (.loop (.seq (.region none vf12r2 [0, 5, 6, 7, 8, 14] [0, 5, 6, 7, 8, 14])
 (.seq (.cond (.t 8) .skip
 (.exit 0))
 (.seq (.block 1 (.seq (.region none vf12r3 [0, 4, 5, 6, 7, 10, 14] [0, 4, 5, 6, 7, 10, 14])
 (.seq (.region none vf12r4 [0, 5, 6, 7, 13, 14] [0, 5, 6, 7, 13, 14])
 (.cond (.t 13) (.seq (.region none vf12r5 [2] [2])
 .ret)
 .skip))))
 (.region none vf12r6 [0, 5, 6, 7, 14] [0, 5, 6, 7, 14])))))))
 (.seq (.region none vf12r7 [2] [2])
 .ret)))

def vf13r0 : List VOper :=
  [⟨(some 4), .asg (.c (.p (.int Go.IntKind.i64 0))), [], none⟩]
def vf13r1 : List VOper :=
  [⟨(some 6), .mv (.t 1), [], none⟩,
   ⟨(some 7), .mv (.t 0), [], none⟩,
   ⟨(some 8), .len true (.t 7), [1], none⟩,
   ⟨(some 9), .bin Go.BinOp.lss .no (.t 6) (.t 8), [0, 2], none⟩]
def vf13r2 : List VOper :=
  [⟨(some 10), .mv (.t 0), [], none⟩,
   ⟨(some 11), .mv (.t 1), [], none⟩,
   ⟨(some 12), .idxS (.t 10) (.t 11), [0, 1], none⟩]
def vf13r3 : List VOper :=
  [⟨(some 15), .bin Go.BinOp.eql .no (.t 12) (.c (.p (.int Go.IntKind.u8 32))), [], none⟩,
   ⟨(some 14), .asg (.t 15), [0], none⟩]
def vf13r4 : List VOper :=
  [⟨(some 16), .bin Go.BinOp.eql .no (.t 12) (.c (.p (.int Go.IntKind.u8 9))), [], none⟩,
   ⟨(some 14), .asg (.t 16), [0], none⟩]
def vf13r5 : List VOper :=
  [⟨(some 17), .bin Go.BinOp.eql .no (.t 12) (.c (.p (.int Go.IntKind.u8 10))), [], none⟩,
   ⟨(some 14), .asg (.t 17), [0], none⟩]
def vf13r6 : List VOper :=
  [⟨(some 18), .bin Go.BinOp.eql .no (.t 12) (.c (.p (.int Go.IntKind.u8 13))), [], none⟩,
   ⟨(some 14), .asg (.t 18), [0], none⟩]
def vf13r7 : List VOper :=
  [⟨(some 19), .mv (.t 1), [], none⟩,
   ⟨(some 20), .bin Go.BinOp.add .no (.t 19) (.c (.p (.int Go.IntKind.i64 1))), [0], none⟩,
   ⟨(some 1), .asg (.t 20), [1, 0, 1], none⟩]
def vf13r8 : List VOper :=
  [⟨(some 22), .bin Go.BinOp.eql .no (.t 12) (.c (.p (.int Go.IntKind.u8 35))), [], none⟩,
   ⟨(some 21), .asg (.t 22), [0], none⟩]
def vf13r9 : List VOper :=
  [⟨(some 23), .mv (.t 0), [], none⟩,
   ⟨(some 24), .mv (.t 1), [], none⟩,
   ⟨(some 25), .slc true 1 (.t 23) (some (.t 24)) none none, [0, 1], none⟩,
   ⟨(some 26), .call 17 [(.t 25), (.c (.p (.int Go.IntKind.u8 10)))], [2], none⟩,
   ⟨(some 5), .asg (.t 26), [3, 3, 0, 1, 2, 3], none⟩]
def vf13r10 : List VOper :=
  [⟨(some 27), .mv (.t 5), [], none⟩,
   ⟨(some 28), .bin Go.BinOp.lss .no (.t 27) (.c (.p (.int Go.IntKind.i64 0))), [0], none⟩]
def vf13r11 : List VOper :=
  [⟨(some 29), .mv (.t 0), [], none⟩,
   ⟨(some 30), .len true (.t 29), [0], none⟩,
   ⟨(some 4), .asg (.t 30), [1, 0, 1], none⟩]
def vf13r12 : List VOper :=
  [⟨(some 31), .mv (.t 1), [], none⟩,
   ⟨(some 32), .mv (.t 5), [], none⟩,
   ⟨(some 33), .bin Go.BinOp.add .no (.t 31) (.t 32), [0, 1], none⟩,
   ⟨(some 1), .asg (.t 33), [2, 0, 1, 2], none⟩]
def vf13r13 : List VOper :=
  [⟨(some 13), .mv (.t 1), [], none⟩,
   ⟨(some 4), .asg (.t 13), [0, 0], none⟩]
def vf13r14 : List VOper :=
  [⟨(some 34), .mv (.t 1), [], none⟩,
   ⟨(some 4), .asg (.t 34), [0, 0], none⟩]
def vf13 : VFun where
  vars := [0, 1]
  boxes := []
  mv := []
  res := [(.t 4)]
  body := (.seq (.region none vf13r0 [0, 1, 20, 33] [0, 1, 20, 33])
 (.seq (.block 0 (.loop (.seq (.seq (.region none vf13r1 [0, 1, 9, 20, 33] [0, 1, 9, 20, 33])
 (.cond (.t 9) .skip
 (.exit 0)))
 (.block 1 (.seq (.region none vf13r2 [0, 1, 12, 20, 33] [0, 1, 12, 20, 33])
 (.block 2 (.seq (.seq (.region none vf13r3 [0, 1, 12, 14, 15, 16, 17, 18, 20, 33] [0, 1, 12, 14, 15, 16, 17, 18, 20, 33])
 (.cond (.t 14) .skip
 (.seq (.region none vf13r4 [0, 1, 12, 14, 15, 16, 17, 18, 20, 33] [0, 1, 12, 14, 15, 16, 17, 18, 20, 33])
 (.cond (.t 14) .skip
 (.seq (.region none vf13r5 [0, 1, 12, 14, 15, 16, 17, 18, 20, 33] [0, 1, 12, 14, 15, 16, 17, 18, 20, 33])
 (.cond (.t 14) .skip
 (.region none vf13r6 [0, 1, 12, 14, 15, 16, 17, 18, 20, 33] [0, 1, 12, 14, 15, 16, 17, 18, 20, 33])))))))
 (.cond (.t 14) (.region none vf13r7 [0, 1, 20, 33] [0, 1, 20, 33])
 (.seq (.region none vf13r8 [0, 1, 20, 21, 22, 33] [0, 1, 20, 21, 22, 33])
 (.cond (.t 21) (.seq (.region none vf13r9 [0, 1, 5, 20, 26, 33] [0, 1, 5, 20, 26, 33])
 (.seq (.seq (.region none vf13r10 [0, 1, 5, 20, 26, 28, 33] [0, 1, 5, 20, 26, 28, 33])
 (.cond (.t 28) (.seq (.region none vf13r11 [1, 4, 13, 20, 30, 33, 34] [1, 4, 13, 20, 30, 33, 34])
 .ret)
 .skip))
 (.region none vf13r12 [0, 1, 20, 33] [0, 1, 20, 33])))
 (.seq (.region none vf13r13 [1, 4, 13, 20, 30, 33, 34] [1, 4, 13, 20, 30, 33, 34])
 .ret)))))))))))
 (.seq (.region none vf13r14 [1, 4, 13, 20, 30, 33, 34] [1, 4, 13, 20, 30, 33, 34])
 .ret)))

def vf14r0 : List VOper :=
  [⟨(some 2), .alloc false [(.int Go.IntKind.i64 0), (.str []), (.int Go.IntKind.i64 0), (.int Go.IntKind.i64 0)], [], none⟩,
   ⟨(some 3), .asg (.c (.p (.int Go.IntKind.i64 0))), [], none⟩]
def vf14r1 : List VOper :=
  [⟨(some 5), .mv (.t 0), [], none⟩,
   ⟨(some 6), .call 18 [(.t 5)], [0], none⟩,
   ⟨(some 4), .asg (.t 6), [1, 1, 0, 1], none⟩]
def vf14r2 : List VOper :=
  [⟨(some 8), .mv (.t 4), [], none⟩,
   ⟨(some 9), .bin Go.BinOp.gtr .no (.t 8) (.c (.p (.int Go.IntKind.i64 0))), [0], none⟩,
   ⟨(some 10), .mv (.t 9), [1], none⟩,
   ⟨(some 11), .mv (.t 0), [2], (some (2, true))⟩,
   ⟨(some 12), .mv (.t 4), [2], (some (2, true))⟩,
   ⟨(some 13), .slc true 1 (.t 11) none (some (.t 12)) none, [3, 4, 2], (some (2, true))⟩,
   ⟨(some 14), .call 19 [(.t 13)], [5, 2, 2], (some (2, true))⟩,
   ⟨(some 15), .pick (.t 10) (.t 14) (.c (.p (.bool false))), [2, 6], none⟩,
   ⟨(some 7), .asg (.t 15), [7, 6], none⟩]
def vf14r3 : List VOper :=
  [⟨(some 16), .mv (.t 0), [], none⟩,
   ⟨(some 17), .mv (.t 4), [], none⟩,
   ⟨(some 18), .slc true 1 (.t 16) none (some (.t 17)) none, [0, 1], none⟩,
   ⟨(some 19), .call 20 [(.t 18)], [2], none⟩,
   ⟨(some 20), .ext (.t 19) 0, [3], none⟩,
   ⟨(some 21), .ext (.t 19) 1, [3], none⟩,
   ⟨none, .store 4 (.t 2) (.t 20), [4, 3, 0, 1, 2, 3, 4, 5], none⟩,
   ⟨(some 3), .asg (.t 21), [5, 6, 0, 1, 2, 3, 4, 5, 6], none⟩]
def vf14r4 : List VOper :=
  [⟨(some 23), .mv (.t 4), [], none⟩,
   ⟨(some 24), .bin Go.BinOp.gtr .no (.t 23) (.c (.p (.int Go.IntKind.i64 0))), [0], none⟩,
   ⟨(some 25), .mv (.t 24), [1], none⟩,
   ⟨(some 26), .mv (.t 0), [2], (some (2, true))⟩,
   ⟨(some 27), .idxS (.t 26) (.c (.p (.int Go.IntKind.i64 0))), [3, 2], (some (2, true))⟩,
   ⟨(some 28), .call 21 [(.t 27)], [4, 2, 2], (some (2, true))⟩,
   ⟨(some 29), .un Go.UnOp.not (.t 28), [5, 2], (some (2, true))⟩,
   ⟨(some 30), .pick (.t 25) (.t 29) (.c (.p (.bool false))), [2, 6], none⟩,
   ⟨(some 22), .asg (.t 30), [7, 5], none⟩]
def vf14r5 : List VOper :=
  [⟨(some 31), .build [(.p (.int Go.IntKind.i64 0)), (.p (.str [])), (.p (.int Go.IntKind.i64 0)), (.p (.int Go.IntKind.i64 0))] [], [], none⟩,
   ⟨none, .store 4 (.t 2) (.t 31), [0, 0], none⟩,
   ⟨(some 3), .asg (.c (.p (.int Go.IntKind.i64 20))), [1, 0, 1], none⟩]
def vf14r6 : List VOper :=
  [⟨(some 33), .mv (.t 4), [], none⟩,
   ⟨(some 34), .bin Go.BinOp.gtr .no (.t 33) (.c (.p (.int Go.IntKind.i64 16))), [0], none⟩,
   ⟨(some 32), .asg (.t 34), [1], none⟩]
def vf14r7 : List VOper :=
  [⟨(some 35), .build [(.p (.int Go.IntKind.i64 0)), (.p (.str [])), (.p (.int Go.IntKind.i64 0)), (.p (.int Go.IntKind.i64 0))] [], [], none⟩,
   ⟨none, .store 4 (.t 2) (.t 35), [0, 0], none⟩,
   ⟨(some 3), .asg (.c (.p (.int Go.IntKind.i64 6))), [1, 0, 1], none⟩]
def vf14r8 : List VOper :=
  [⟨(some 37), .mv (.t 4), [], none⟩,
   ⟨(some 38), .bin Go.BinOp.gtr .no (.t 37) (.c (.p (.int Go.IntKind.i64 0))), [0], none⟩,
   ⟨(some 36), .asg (.t 38), [1], none⟩]
def vf14r9 : List VOper :=
  [⟨(some 39), .mv (.t 0), [], none⟩,
   ⟨(some 40), .mv (.t 4), [], none⟩,
   ⟨(some 41), .slc true 1 (.t 39) none (some (.t 40)) none, [0, 1], none⟩,
   ⟨(some 42), .build [(.p (.int Go.IntKind.i64 0)), (.p (.str [])), (.p (.int Go.IntKind.i64 0)), (.p (.int Go.IntKind.i64 0))] [(0, 1, (.c (.p (.int Go.IntKind.i64 1)))), (1, 1, (.t 41))], [2], none⟩,
   ⟨none, .store 4 (.t 2) (.t 42), [3, 0, 1, 2, 3], none⟩,
   ⟨(some 3), .asg (.c (.p (.int Go.IntKind.i64 0))), [4, 0, 1, 2, 3, 4], none⟩]
def vf14r10 : List VOper :=
  [⟨(some 43), .mv (.t 0), [], none⟩,
   ⟨(some 44), .idxS (.t 43) (.c (.p (.int Go.IntKind.i64 0))), [0], none⟩]
def vf14r11 : List VOper :=
  [⟨(some 46), .bin Go.BinOp.eql .no (.t 44) (.c (.p (.int Go.IntKind.u8 45))), [], none⟩,
   ⟨(some 45), .asg (.t 46), [0], none⟩]
def vf14r12 : List VOper :=
  [⟨(some 48), .bin Go.BinOp.eql .no (.t 44) (.c (.p (.int Go.IntKind.u8 61))), [], none⟩,
   ⟨(some 47), .asg (.t 48), [0], none⟩]
def vf14r13 : List VOper :=
  [⟨(some 49), .bin Go.BinOp.eql .no (.t 44) (.c (.p (.int Go.IntKind.u8 44))), [], none⟩,
   ⟨(some 47), .asg (.t 49), [0], none⟩]
def vf14r14 : List VOper :=
  [⟨(some 50), .bin Go.BinOp.eql .no (.t 44) (.c (.p (.int Go.IntKind.u8 59))), [], none⟩,
   ⟨(some 47), .asg (.t 50), [0], none⟩]
def vf14r15 : List VOper :=
  [⟨(some 51), .bin Go.BinOp.eql .no (.t 44) (.c (.p (.int Go.IntKind.u8 38))), [], none⟩,
   ⟨(some 47), .asg (.t 51), [0], none⟩]
def vf14r16 : List VOper :=
  [⟨(some 52), .bin Go.BinOp.eql .no (.t 44) (.c (.p (.int Go.IntKind.u8 33))), [], none⟩,
   ⟨(some 47), .asg (.t 52), [0], none⟩]
def vf14r17 : List VOper :=
  [⟨(some 53), .bin Go.BinOp.eql .no (.t 44) (.c (.p (.int Go.IntKind.u8 58))), [], none⟩,
   ⟨(some 47), .asg (.t 53), [0], none⟩]
def vf14r18 : List VOper :=
  [⟨(some 54), .mv (.t 0), [], none⟩,
   ⟨(some 55), .call 22 [(.t 54), (.c (.p (.str [45, 62])))], [0], none⟩]
def vf14r19 : List VOper :=
  [⟨(some 56), .build [(.p (.int Go.IntKind.i64 0)), (.p (.str [])), (.p (.int Go.IntKind.i64 0)), (.p (.int Go.IntKind.i64 0))] [(0, 1, (.c (.p (.int Go.IntKind.i64 3)))), (1, 1, (.c (.p (.str [45, 62]))))], [], none⟩,
   ⟨none, .store 4 (.t 2) (.t 56), [0, 0], none⟩,
   ⟨(some 3), .asg (.c (.p (.int Go.IntKind.i64 0))), [1, 0, 1], none⟩]
def vf14r20 : List VOper :=
  [⟨(some 57), .mv (.t 0), [], none⟩,
   ⟨(some 58), .slc true 1 (.t 57) none (some (.c (.p (.int Go.IntKind.i64 1)))) none, [0], none⟩,
   ⟨(some 59), .build [(.p (.int Go.IntKind.i64 0)), (.p (.str [])), (.p (.int Go.IntKind.i64 0)), (.p (.int Go.IntKind.i64 0))] [(0, 1, (.c (.p (.int Go.IntKind.i64 3)))), (1, 1, (.t 58))], [1], none⟩,
   ⟨none, .store 4 (.t 2) (.t 59), [2, 0, 1, 2], none⟩,
   ⟨(some 3), .asg (.c (.p (.int Go.IntKind.i64 0))), [3, 0, 1, 2, 3], none⟩]
def vf14r21 : List VOper :=
  [⟨(some 60), .build [(.p (.int Go.IntKind.i64 0)), (.p (.str [])), (.p (.int Go.IntKind.i64 0)), (.p (.int Go.IntKind.i64 0))] [], [], none⟩,
   ⟨none, .store 4 (.t 2) (.t 60), [0, 0], none⟩,
   ⟨(some 3), .asg (.c (.p (.int Go.IntKind.i64 20))), [1, 0, 1], none⟩]
def vf14 : VFun where
  vars := [0, 11, 12, 13, 14, 26, 27, 28, 29]
  boxes := [2]
  mv := []
  res := [(.cell 2 (some 4)), (.t 3)]
  body := (.seq (.region none vf14r0 [0, 2, 4, 6, 11, 12, 13, 14, 26, 27, 28, 29] [0, 2, 4, 6, 11, 12, 13, 14, 26, 27, 28, 29])
 (.seq (.region none vf14r1 [0, 2, 4, 6, 11, 12, 13, 14, 26, 27, 28, 29] [0, 2, 4, 6, 11, 12, 13, 14, 26, 27, 28, 29])
 (.seq (.block 0 (.seq (.region none vf14r2 [0, 2, 4, 6, 7, 15, 26, 27, 28, 29] [0, 2, 4, 6, 7, 15, 26, 27, 28, 29])
 (.cond (.t 7) (.seq (.region none vf14r3 [2, 3, 21] [2, 3, 21])
 .ret)
 (.seq (.region none vf14r4 [0, 2, 4, 6, 22, 30] [0, 2, 4, 6, 22, 30])
 (.cond (.t 22) (.seq (.region none vf14r5 [2, 3, 21] [2, 3, 21])
 .ret)
 (.seq (.region none vf14r6 [0, 2, 4, 6, 32, 34] [0, 2, 4, 6, 32, 34])
 (.cond (.t 32) (.seq (.region none vf14r7 [2, 3, 21] [2, 3, 21])
 .ret)
 (.seq (.region none vf14r8 [0, 2, 4, 6, 36, 38] [0, 2, 4, 6, 36, 38])
 (.cond (.t 36) (.seq (.region none vf14r9 [2, 3, 21] [2, 3, 21])
 .ret)
 .skip)))))))))
 (.seq (.seq (.region none vf14r10 [0, 2, 44] [0, 2, 44])
 (.block 1 (.seq (.block 3 (.seq (.block 2 (.seq (.seq (.seq (.region none vf14r11 [0, 2, 44, 45, 46] [0, 2, 44, 45, 46])
 (.cond (.t 45) (.exit 2)
 .skip))
 (.seq (.seq (.region none vf14r12 [0, 2, 44, 47, 48, 49, 50, 51, 52, 53] [0, 2, 44, 47, 48, 49, 50, 51, 52, 53])
 (.cond (.t 47) .skip
 (.seq (.region none vf14r13 [0, 2, 44, 47, 48, 49, 50, 51, 52, 53] [0, 2, 44, 47, 48, 49, 50, 51, 52, 53])
 (.cond (.t 47) .skip
 (.seq (.region none vf14r14 [0, 2, 44, 47, 48, 49, 50, 51, 52, 53] [0, 2, 44, 47, 48, 49, 50, 51, 52, 53])
 (.cond (.t 47) .skip
 (.seq (.region none vf14r15 [0, 2, 44, 47, 48, 49, 50, 51, 52, 53] [0, 2, 44, 47, 48, 49, 50, 51, 52, 53])
 (.cond (.t 47) .skip
 (.seq (.region none vf14r16 [0, 2, 44, 47, 48, 49, 50, 51, 52, 53] [0, 2, 44, 47, 48, 49, 50, 51, 52, 53])
 (.cond (.t 47) .skip
 (.region none vf14r17 [0, 2, 47, 48, 49, 50, 51, 52, 53] [0, 2, 47, 48, 49, 50, 51, 52, 53])))))))))))
 (.cond (.t 47) (.exit 3)
 .skip)))
 (.exit 1)))
 (.seq (.region none vf14r18 [0, 2, 55] [0, 2, 55])
 (.cond (.t 55) (.seq (.region none vf14r19 [2, 3, 21] [2, 3, 21])
 .ret)
 .skip))))
 (.seq (.seq (.region none vf14r20 [2, 3, 21] [2, 3, 21])
 .ret)
 (.exit 1)))))
 (.seq (.region none vf14r21 [2, 3, 21] [2, 3, 21])
 .ret)))))

def vf17r0 : List VOper :=
  [⟨(some 4), .asg (.c (.p (.int Go.IntKind.i64 0))), [], none⟩]
def vf17r1 : List VOper :=
  [⟨(some 5), .mv (.t 0), [], none⟩,
   ⟨(some 6), .mv (.t 1), [], none⟩,
   ⟨(some 7), .call 23 [(.t 5), (.t 6)], [0, 1], none⟩,
   ⟨(some 4), .asg (.t 7), [2, 2, 0, 1, 2], none⟩]
def vf17 : VFun where
  vars := [0, 1]
  boxes := []
  mv := []
  res := [(.t 4)]
  body := (.seq (.region none vf17r0 [0, 1] [0, 1])
 (.seq (.region none vf17r1 [4, 7] [4, 7])
 .ret))

def vf18r0 : List VOper :=
  [⟨(some 2), .asg (.c (.p (.int Go.IntKind.i64 0))), [], none⟩]
def vf18r1 : List VOper :=
  [⟨(some 3), .asg (.c (.p (.int Go.IntKind.i64 0))), [], none⟩]
def vf18r2 : List VOper :=
  [⟨(some 4), .mv (.t 3), [], none⟩,
   ⟨(some 5), .mv (.t 0), [], none⟩,
   ⟨(some 6), .len true (.t 5), [1], none⟩,
   ⟨(some 7), .bin Go.BinOp.lss .no (.t 4) (.t 6), [0, 2], none⟩,
   ⟨(some 8), .mv (.t 7), [3], none⟩,
   ⟨(some 9), .mv (.t 0), [4], (some (4, true))⟩,
   ⟨(some 10), .mv (.t 3), [4], (some (4, true))⟩,
   ⟨(some 11), .idxS (.t 9) (.t 10), [5, 6, 4], (some (4, true))⟩,
   ⟨(some 12), .call 21 [(.t 11)], [7, 4, 4], (some (4, true))⟩,
   ⟨(some 13), .mv (.t 12), [8, 8, 4], (some (4, true))⟩,
   ⟨(some 14), .mv (.t 0), [9], (some (9, false))⟩,
   ⟨(some 15), .mv (.t 3), [9], (some (9, false))⟩,
   ⟨(some 16), .idxS (.t 14) (.t 15), [10, 11, 9], (some (9, false))⟩,
   ⟨(some 17), .call 24 [(.t 16)], [12, 9, 9], (some (9, false))⟩,
   ⟨(some 18), .pick (.t 13) (.c (.p (.bool true))) (.t 17), [9, 13, 4], (some (4, true))⟩,
   ⟨(some 19), .pick (.t 8) (.t 18) (.c (.p (.bool false))), [4, 14], none⟩]
def vf18r3 : List VOper :=
  [⟨(some 20), .mv (.t 3), [], none⟩,
   ⟨(some 21), .bin Go.BinOp.add .no (.t 20) (.c (.p (.int Go.IntKind.i64 1))), [0], none⟩,
   ⟨(some 3), .asg (.t 21), [1, 0, 1], none⟩]
def vf18r4 : List VOper :=
  [⟨(some 22), .mv (.t 3), [], none⟩,
   ⟨(some 2), .asg (.t 22), [0, 0], none⟩]
def vf18 : VFun where
  vars := [0, 9, 10, 11, 12, 13, 14, 15, 16, 17, 18]
  boxes := []
  mv := []
  res := [(.t 2)]
  body := (.seq (.region none vf18r0 [0, 3, 9, 10, 11, 12, 13, 14, 15, 16, 17, 18, 21] [0, 3, 9, 10, 11, 12, 13, 14, 15, 16, 17, 18, 21])
 (.seq (.region none vf18r1 [0, 3, 9, 10, 11, 12, 13, 14, 15, 16, 17, 18, 21] [0, 3, 9, 10, 11, 12, 13, 14, 15, 16, 17, 18, 21])
 (.seq (.block 0 (.loop (.seq (.seq (.region none vf18r2 [0, 3, 9, 10, 11, 12, 13, 14, 15, 16, 17, 18, 19, 21] [0, 3, 9, 10, 11, 12, 13, 14, 15, 16, 17, 18, 19, 21])
 (.cond (.t 19) .skip
 (.exit 0)))
 (.block 1 (.region none vf18r3 [0, 3, 9, 10, 11, 12, 13, 14, 15, 16, 17, 18, 21] [0, 3, 9, 10, 11, 12, 13, 14, 15, 16, 17, 18, 21])))))
 (.seq (.region none vf18r4 [2, 3, 21, 22] [2, 3, 21, 22])
 .ret))))

def vf19r0 : List VOper :=
  [⟨(some 2), .asg (.c (.p (.bool false))), [], none⟩]
def vf19r1 : List VOper :=
  [⟨(some 4), .mv (.t 0), [], none⟩,
   ⟨(some 5), .len true (.t 4), [0], none⟩,
   ⟨(some 6), .mv (.c (.p (.int Go.IntKind.i64 0))), [], none⟩]
def vf19r2 : List VOper :=
  [⟨(some 7), .bin Go.BinOp.lss .no (.t 6) (.t 5), [], none⟩]
def vf19r3 : List VOper :=
  [⟨(some 8), .mv (.t 6), [], none⟩,
   ⟨(some 3), .asg (.t 8), [0, 0], none⟩]
def vf19r4 : List VOper :=
  [⟨(some 9), .mv (.t 0), [], none⟩,
   ⟨(some 10), .mv (.t 3), [], none⟩,
   ⟨(some 11), .idxS (.t 9) (.t 10), [0, 1], none⟩,
   ⟨(some 12), .call 24 [(.t 11)], [2], none⟩,
   ⟨(some 13), .un Go.UnOp.not (.t 12), [3], none⟩]
def vf19r5 : List VOper :=
  [⟨(some 2), .asg (.c (.p (.bool false))), [], none⟩]
def vf19r6 : List VOper :=
  [⟨(some 14), .bin Go.BinOp.add .no (.t 6) (.c (.p (.int Go.IntKind.i64 1))), [], none⟩,
   ⟨(some 6), .mv (.t 14), [0], none⟩]
def vf19r7 : List VOper :=
  [⟨(some 2), .asg (.c (.p (.bool true))), [], none⟩]
def vf19 : VFun where
  vars := [0]
  boxes := []
  mv := []
  res := [(.t 2)]
  body := (.seq (.region none vf19r0 [0] [0])
 (.seq (.seq (.region none vf19r1 [0, 5, 6, 14] [0, 5, 6, 14])
 (.block 0 (.loop (.seq (.region none vf19r2 [0, 5, 6, 7, 14] [0, 5, 6, 7, 14])
 (.seq (.cond (.t 7) .skip
 (.exit 0))
 (.seq (.block 1 (.seq (.region none vf19r3 [0, 3, 5, 6, 8, 14] [0, 3, 5, 6, 8, 14])
 (.seq (.region none vf19r4 [0, 5, 6, 13, 14] [0, 5, 6, 13, 14])
 (.cond (.t 13) (.seq (.region none vf19r5 [2] [2])
 .ret)
 .skip))))
 (.region none vf19r6 [0, 5, 6, 14] [0, 5, 6, 14])))))))
 (.seq (.region none vf19r7 [2] [2])
 .ret)))

def vf20r0 : List VOper :=
  [⟨(some 2), .alloc false [(.int Go.IntKind.i64 0), (.str []), (.int Go.IntKind.i64 0), (.int Go.IntKind.i64 0)], [], none⟩,
   ⟨(some 3), .asg (.c (.p (.int Go.IntKind.i64 0))), [], none⟩]
def vf20r1 : List VOper :=
  [⟨(some 7), .mv (.t 0), [], none⟩,
   ⟨(some 8), .len true (.t 7), [0], none⟩,
   ⟨(some 9), .bin Go.BinOp.gtr .no (.t 8) (.c (.p (.int Go.IntKind.i64 6))), [1], none⟩,
   ⟨(some 6), .asg (.t 9), [2], none⟩]
def vf20r2 : List VOper :=
  [⟨(some 10), .build [(.p (.int Go.IntKind.i64 0)), (.p (.str [])), (.p (.int Go.IntKind.i64 0)), (.p (.int Go.IntKind.i64 0))] [], [], none⟩,
   ⟨none, .store 4 (.t 2) (.t 10), [0, 0], none⟩,
   ⟨(some 3), .asg (.c (.p (.int Go.IntKind.i64 6))), [1, 0, 1], none⟩]
def vf20r3 : List VOper :=
  [⟨(some 12), .mv (.t 0), [], none⟩,
   ⟨(some 13), .len true (.t 12), [0], none⟩,
   ⟨(some 14), .bin Go.BinOp.gtr .no (.t 13) (.c (.p (.int Go.IntKind.i64 1))), [1], none⟩,
   ⟨(some 15), .mv (.t 14), [2], none⟩,
   ⟨(some 16), .mv (.t 0), [3], (some (3, true))⟩,
   ⟨(some 17), .idxS (.t 16) (.c (.p (.int Go.IntKind.i64 0))), [4, 3], (some (3, true))⟩,
   ⟨(some 18), .bin Go.BinOp.eql .no (.t 17) (.c (.p (.int Go.IntKind.u8 48))), [5, 3], (some (3, true))⟩,
   ⟨(some 19), .pick (.t 15) (.t 18) (.c (.p (.bool false))), [3, 6], none⟩,
   ⟨(some 11), .asg (.t 19), [7, 3], none⟩]
def vf20r4 : List VOper :=
  [⟨(some 20), .build [(.p (.int Go.IntKind.i64 0)), (.p (.str [])), (.p (.int Go.IntKind.i64 0)), (.p (.int Go.IntKind.i64 0))] [], [], none⟩,
   ⟨none, .store 4 (.t 2) (.t 20), [0, 0], none⟩,
   ⟨(some 3), .asg (.c (.p (.int Go.IntKind.i64 20))), [1, 0, 1], none⟩]
def vf20r5 : List VOper :=
  [⟨(some 4), .asg (.c (.p (.int Go.IntKind.i64 0))), [], none⟩]
def vf20r6 : List VOper :=
  [⟨(some 21), .mv (.t 0), [], none⟩,
   ⟨(some 22), .len true (.t 21), [0], none⟩,
   ⟨(some 23), .mv (.c (.p (.int Go.IntKind.i64 0))), [], none⟩]
def vf20r7 : List VOper :=
  [⟨(some 24), .bin Go.BinOp.lss .no (.t 23) (.t 22), [], none⟩]
def vf20r8 : List VOper :=
  [⟨(some 25), .mv (.t 23), [], none⟩,
   ⟨(some 5), .asg (.t 25), [0, 0], none⟩]
def vf20r9 : List VOper :=
  [⟨(some 26), .mv (.t 4), [], none⟩,
   ⟨(some 27), .bin Go.BinOp.mul .no (.c (.p (.int Go.IntKind.i64 10))) (.t 26), [0], none⟩,
   ⟨(some 28), .mv (.t 0), [], none⟩,
   ⟨(some 29), .mv (.t 5), [], none⟩,
   ⟨(some 30), .idxS (.t 28) (.t 29), [2, 3], none⟩,
   ⟨(some 31), .bin Go.BinOp.sub .no (.t 30) (.c (.p (.int Go.IntKind.u8 48))), [4], none⟩,
   ⟨(some 32), .conv (.int Go.IntKind.i64) (.t 31), [5], none⟩,
   ⟨(some 33), .bin Go.BinOp.add .no (.t 27) (.t 32), [1, 6], none⟩,
   ⟨(some 4), .asg (.t 33), [7, 0, 1, 2, 3, 4, 5, 6, 7], none⟩]
def vf20r10 : List VOper :=
  [⟨(some 34), .bin Go.BinOp.add .no (.t 23) (.c (.p (.int Go.IntKind.i64 1))), [], none⟩,
   ⟨(some 23), .mv (.t 34), [0], none⟩]
def vf20r11 : List VOper :=
  [⟨(some 35), .mv (.t 0), [], none⟩,
   ⟨(some 36), .mv (.t 4), [], none⟩,
   ⟨(some 37), .build [(.p (.int Go.IntKind.i64 0)), (.p (.str [])), (.p (.int Go.IntKind.i64 0)), (.p (.int Go.IntKind.i64 0))] [(0, 1, (.c (.p (.int Go.IntKind.i64 2)))), (1, 1, (.t 35)), (2, 1, (.t 36))], [0, 1], none⟩,
   ⟨none, .store 4 (.t 2) (.t 37), [2, 0, 1, 2], none⟩,
   ⟨(some 3), .asg (.c (.p (.int Go.IntKind.i64 0))), [3, 0, 1, 2, 3], none⟩]
def vf20 : VFun where
  vars := [0, 16, 17, 18]
  boxes := [2]
  mv := []
  res := [(.cell 2 (some 4)), (.t 3)]
  body := (.seq (.region none vf20r0 [0, 2, 16, 17, 18] [0, 2, 16, 17, 18])
 (.seq (.block 0 (.seq (.region none vf20r1 [0, 2, 6, 9, 16, 17, 18] [0, 2, 6, 9, 16, 17, 18])
 (.cond (.t 6) (.seq (.region none vf20r2 [2, 3] [2, 3])
 .ret)
 (.seq (.region none vf20r3 [0, 2, 11, 19] [0, 2, 11, 19])
 (.cond (.t 11) (.seq (.region none vf20r4 [2, 3] [2, 3])
 .ret)
 .skip)))))
 (.seq (.region none vf20r5 [0, 2, 4, 33] [0, 2, 4, 33])
 (.seq (.seq (.region none vf20r6 [0, 2, 4, 22, 23, 33, 34] [0, 2, 4, 22, 23, 33, 34])
 (.block 1 (.loop (.seq (.region none vf20r7 [0, 2, 4, 22, 23, 24, 33, 34] [0, 2, 4, 22, 23, 24, 33, 34])
 (.seq (.cond (.t 24) .skip
 (.exit 1))
 (.seq (.block 2 (.seq (.region none vf20r8 [0, 2, 4, 5, 22, 23, 25, 33, 34] [0, 2, 4, 5, 22, 23, 25, 33, 34])
 (.region none vf20r9 [0, 2, 4, 22, 23, 33, 34] [0, 2, 4, 22, 23, 33, 34])))
 (.region none vf20r10 [0, 2, 4, 22, 23, 33, 34] [0, 2, 4, 22, 23, 33, 34])))))))
 (.seq (.region none vf20r11 [2, 3] [2, 3])
 .ret)))))

def vf21r0 : List VOper :=
  [⟨(some 2), .asg (.c (.p (.bool false))), [], none⟩]
def vf21r1 : List VOper :=
  [⟨(some 3), .mv (.t 0), [], none⟩,
   ⟨(some 4), .bin Go.BinOp.geq .no (.t 3) (.c (.p (.int Go.IntKind.u8 97))), [0], none⟩,
   ⟨(some 5), .mv (.t 4), [1], none⟩,
   ⟨(some 6), .mv (.t 0), [2], (some (2, true))⟩,
   ⟨(some 7), .bin Go.BinOp.leq .no (.t 6) (.c (.p (.int Go.IntKind.u8 122))), [3, 2], (some (2, true))⟩,
   ⟨(some 8), .pick (.t 5) (.t 7) (.c (.p (.bool false))), [2, 4], none⟩,
   ⟨(some 2), .asg (.t 8), [5, 2, 0, 1, 2, 3, 4, 5], none⟩]
def vf21 : VFun where
  vars := [0, 6, 7]
  boxes := []
  mv := []
  res := [(.t 2)]
  body := (.seq (.region none vf21r0 [0, 6, 7] [0, 6, 7])
 (.seq (.region none vf21r1 [2, 8] [2, 8])
 .ret))

def vf22r0 : List VOper :=
  [⟨(some 4), .asg (.c (.p (.bool false))), [], none⟩]
def vf22r1 : List VOper :=
  [⟨(some 5), .mv (.t 0), [], none⟩,
   ⟨(some 6), .mv (.t 1), [], none⟩,
   ⟨(some 7), .call 25 [(.t 5), (.t 6)], [0, 1], none⟩,
   ⟨(some 4), .asg (.t 7), [2, 2, 0, 1, 2], none⟩]
def vf22 : VFun where
  vars := [0, 1]
  boxes := []
  mv := []
  res := [(.t 4)]
  body := (.seq (.region none vf22r0 [0, 1] [0, 1])
 (.seq (.region none vf22r1 [4, 7] [4, 7])
 .ret))

def vf23r0 : List VOper :=
  [⟨(some 4), .asg (.c (.p (.int Go.IntKind.i64 0))), [], none⟩]
def vf23r1 : List VOper :=
  [⟨(some 5), .mv (.t 0), [], none⟩,
   ⟨(some 6), .mv (.t 1), [], none⟩,
   ⟨(some 7), .call 26 [(.t 5), (.t 6)], [0, 1], none⟩,
   ⟨(some 4), .asg (.t 7), [2, 2, 0, 1, 2], none⟩]
def vf23 : VFun where
  vars := [0, 1]
  boxes := []
  mv := []
  res := [(.t 4)]
  body := (.seq (.region none vf23r0 [0, 1] [0, 1])
 (.seq (.region none vf23r1 [4, 7] [4, 7])
 .ret))

def vf24r0 : List VOper :=
  [⟨(some 2), .asg (.c (.p (.bool false))), [], none⟩]
def vf24r1 : List VOper :=
  [⟨(some 3), .mv (.t 0), [], none⟩,
   ⟨(some 4), .bin Go.BinOp.geq .no (.t 3) (.c (.p (.int Go.IntKind.u8 48))), [0], none⟩,
   ⟨(some 5), .mv (.t 4), [1], none⟩,
   ⟨(some 6), .mv (.t 0), [2], (some (2, true))⟩,
   ⟨(some 7), .bin Go.BinOp.leq .no (.t 6) (.c (.p (.int Go.IntKind.u8 57))), [3, 2], (some (2, true))⟩,
   ⟨(some 8), .pick (.t 5) (.t 7) (.c (.p (.bool false))), [2, 4], none⟩,
   ⟨(some 2), .asg (.t 8), [5, 2, 0, 1, 2, 3, 4, 5], none⟩]
def vf24 : VFun where
  vars := [0, 6, 7]
  boxes := []
  mv := []
  res := [(.t 2)]
  body := (.seq (.region none vf24r0 [0, 6, 7] [0, 6, 7])
 (.seq (.region none vf24r1 [2, 8] [2, 8])
 .ret))

def vf25r0 : List VOper :=
  [⟨(some 4), .asg (.c (.p (.bool false))), [], none⟩]
def vf25r1 : List VOper :=
  [⟨(some 5), .mv (.t 0), [], none⟩,
   ⟨(some 6), .len true (.t 5), [0], none⟩,
   ⟨(some 7), .mv (.t 1), [], none⟩,
   ⟨(some 8), .len true (.t 7), [2], none⟩,
   ⟨(some 9), .bin Go.BinOp.geq .no (.t 6) (.t 8), [1, 3], none⟩,
   ⟨(some 10), .mv (.t 9), [4], none⟩,
   ⟨(some 11), .mv (.t 0), [5], (some (5, true))⟩,
   ⟨(some 12), .mv (.t 1), [5], (some (5, true))⟩,
   ⟨(some 13), .len true (.t 12), [7, 5], (some (5, true))⟩,
   ⟨(some 14), .slc true 1 (.t 11) none (some (.t 13)) none, [6, 8, 5], (some (5, true))⟩,
   ⟨(some 15), .mv (.t 1), [5], (some (5, true))⟩,
   ⟨(some 16), .bin Go.BinOp.eql .no (.t 14) (.t 15), [9, 10, 5], (some (5, true))⟩,
   ⟨(some 17), .pick (.t 10) (.t 16) (.c (.p (.bool false))), [5, 11], none⟩,
   ⟨(some 4), .asg (.t 17), [12, 5, 0, 1, 2, 3, 4, 5, 6, 7, 8, 9, 10, 11, 12], none⟩]
def vf25 : VFun where
  vars := [0, 1, 11, 12, 13, 14, 15, 16]
  boxes := []
  mv := []
  res := [(.t 4)]
  body := (.seq (.region none vf25r0 [0, 1, 11, 12, 13, 14, 15, 16] [0, 1, 11, 12, 13, 14, 15, 16])
 (.seq (.region none vf25r1 [4, 17] [4, 17])
 .ret))


def nonro : List Nat := []
def ro (f : Nat) : Bool := !nonro.contains f
def prims : List (Nat × Prim) := [(26, .q indexByteF)]
def fl : List (Nat × VFun) := [(6, vf6), (7, vf7), (10, vf10), (11, vf11), (12, vf12), (13, vf13), (14, vf14), (17, vf17), (18, vf18), (19, vf19), (20, vf20), (21, vf21), (22, vf22), (23, vf23), (24, vf24), (25, vf25)]
/-- the table, its functions a name -/
def T' (fns : Nat → Option VFun) : Tab where
  fns := fns
  ro := ro
  prim := look prims
abbrev T : Tab := T' (look fl)

theorem ok6 : funOf Try.prog ro [] Try.f6 = some vf6 := by kernel_rfl
theorem ok7 : funOf Try.prog ro [] Try.f7 = some vf7 := by kernel_rfl
theorem ok10 : funOf Try.prog ro [] Try.f10 = some vf10 := by kernel_rfl
theorem ok11 : funOf Try.prog ro [] Try.f11 = some vf11 := by kernel_rfl
theorem ok12 : funOf Try.prog ro [] Try.f12 = some vf12 := by kernel_rfl
theorem ok13 : funOf Try.prog ro [] Try.f13 = some vf13 := by kernel_rfl
theorem ok14 : funOf Try.prog ro [] Try.f14 = some vf14 := by kernel_rfl
theorem ok17 : funOf Try.prog ro [] Try.f17 = some vf17 := by kernel_rfl
theorem ok18 : funOf Try.prog ro [] Try.f18 = some vf18 := by kernel_rfl
theorem ok19 : funOf Try.prog ro [] Try.f19 = some vf19 := by kernel_rfl
theorem ok20 : funOf Try.prog ro [] Try.f20 = some vf20 := by kernel_rfl
theorem ok21 : funOf Try.prog ro [] Try.f21 = some vf21 := by kernel_rfl
theorem ok22 : funOf Try.prog ro [] Try.f22 = some vf22 := by kernel_rfl
theorem ok23 : funOf Try.prog ro [] Try.f23 = some vf23 := by kernel_rfl
theorem ok24 : funOf Try.prog ro [] Try.f24 = some vf24 := by kernel_rfl
theorem ok25 : funOf Try.prog ro [] Try.f25 = some vf25 := by kernel_rfl

theorem look_mem {α : Type} : ∀ {l : List (Nat × α)} {k : Nat} {v : α}, look l k = some v → (k, v) ∈ l
  | [], _, _, h => by simp [look] at h
  | (j, u) :: r, k, v, h => by
    unfold look at h
    split at h
    · rename_i e; subst e; simp only [Option.some.injEq] at h; subst h; simp
    · exact List.mem_cons_of_mem _ (look_mem h)

theorem mixed : Try.prog.follows .mixedOrders = true := by kernel_rfl
theorem tabOk : TabOk Try.prog T := by
  intro f vf h
  have hm := look_mem (show look fl f = some vf from h)
  simp only [fl, List.mem_cons, Prod.mk.injEq, List.not_mem_nil, or_false] at hm
  rcases hm with ⟨rfl, rfl⟩ | ⟨rfl, rfl⟩ | ⟨rfl, rfl⟩ | ⟨rfl, rfl⟩ | ⟨rfl, rfl⟩ | ⟨rfl, rfl⟩ | ⟨rfl, rfl⟩ | ⟨rfl, rfl⟩ | ⟨rfl, rfl⟩ | ⟨rfl, rfl⟩ | ⟨rfl, rfl⟩ | ⟨rfl, rfl⟩ | ⟨rfl, rfl⟩ | ⟨rfl, rfl⟩ | ⟨rfl, rfl⟩ | ⟨rfl, rfl⟩
  · exact ⟨Try.f6, ro, [], Try.func6, by decide +kernel, ok6⟩
  · exact ⟨Try.f7, ro, [], Try.func7, by decide +kernel, ok7⟩
  · exact ⟨Try.f10, ro, [], Try.func10, by decide +kernel, ok10⟩
  · exact ⟨Try.f11, ro, [], Try.func11, by decide +kernel, ok11⟩
  · exact ⟨Try.f12, ro, [], Try.func12, by decide +kernel, ok12⟩
  · exact ⟨Try.f13, ro, [], Try.func13, by decide +kernel, ok13⟩
  · exact ⟨Try.f14, ro, [], Try.func14, by decide +kernel, ok14⟩
  · exact ⟨Try.f17, ro, [], Try.func17, by decide +kernel, ok17⟩
  · exact ⟨Try.f18, ro, [], Try.func18, by decide +kernel, ok18⟩
  · exact ⟨Try.f19, ro, [], Try.func19, by decide +kernel, ok19⟩
  · exact ⟨Try.f20, ro, [], Try.func20, by decide +kernel, ok20⟩
  · exact ⟨Try.f21, ro, [], Try.func21, by decide +kernel, ok21⟩
  · exact ⟨Try.f22, ro, [], Try.func22, by decide +kernel, ok22⟩
  · exact ⟨Try.f23, ro, [], Try.func23, by decide +kernel, ok23⟩
  · exact ⟨Try.f24, ro, [], Try.func24, by decide +kernel, ok24⟩
  · exact ⟨Try.f25, ro, [], Try.func25, by decide +kernel, ok25⟩

theorem primOk : PrimOk Try.prog T := by
  intro f p h
  have hm := look_mem (show look prims f = some p from h)
  simp only [prims, List.mem_cons, Prod.mk.injEq, List.not_mem_nil, or_false] at hm
  obtain ⟨rfl, rfl⟩ := hm
  · exact indexByte_prim Try.func26 (by kernel_rfl) (by kernel_rfl) (by kernel_rfl) (by kernel_rfl)
end Go.Proofs.Ytkkainkhjimcmaa.L
