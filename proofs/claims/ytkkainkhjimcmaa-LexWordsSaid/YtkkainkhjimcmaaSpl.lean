import Derived.Test.YtkkainkhjimcmaaSpl0
/-
Functions run on values that are not known, each by itself. Printed by program.
-/
namespace Go.Proofs.Ytkkainkhjimcmaa.L
open Go Go.VM
set_option linter.unusedVariables false
set_option maxRecDepth 100000
set_option maxHeartbeats 4000000
abbrev zi (n : Int) : SV := SV.p (PV.int IntKind.i64 n)
abbrev zs (s : List UInt8) : SV := SV.p (PV.str s)
abbrev zb (b : Bool) : SV := SV.p (PV.bool b)
abbrev zn : SV := SV.p PV.nils
abbrev uu : SV := SV.undef
abbrev LT : List UInt8 := [97, 98, 99, 100, 101, 102, 103, 104, 105, 106, 107, 108, 109, 110, 111, 112, 113, 114, 115, 116, 117, 118, 119, 120, 121, 122]
abbrev DG : List UInt8 := [48, 49, 50, 51, 52, 53, 54, 55, 56, 57]
abbrev LPT := VCode → St → Option (Ex × St)
abbrev GT := List UInt8 → Bool
abbrev WT := Int → List UInt8 → Bool
abbrev BT := List UInt8 → List UInt8
abbrev n5 : CallF := fun _ _ _ _ _ => none
abbrev n2 : LPT := fun _ _ => none
abbrev b16 : VCode := (((VCode.region none [{ dst := some 6, op := VOp.mv (Opd.t 5), after := [], guard := none }, { dst := some 7, op := VOp.mv (Opd.t 1), after := [], guard := none }, { dst := some 8, op := VOp.len true (Opd.t 7), after := [1], guard := none }, { dst := some 9, op := VOp.bin BinOp.lss Ek.no (Opd.t 6) (Opd.t 8), after := [0, 2], guard := none }] [0, 1, 5, 9] [0, 1, 5, 9]).seq (VCode.cond (Opd.t 9) VCode.skip (VCode.exit 0))).seq ((VCode.block 1 ((VCode.region none [{ dst := some 12, op := VOp.mv (Opd.t 1), after := [], guard := none }, { dst := some 13, op := VOp.mv (Opd.t 5), after := [], guard := none }, { dst := some 14, op := VOp.idxS (Opd.t 12) (Opd.t 13), after := [0, 1], guard := none }, { dst := some 15, op := VOp.mv (Opd.t 0), after := [], guard := none }, { dst := some 16, op := VOp.bin BinOp.eql Ek.no (Opd.t 14) (Opd.t 15), after := [2, 3], guard := none }] [0, 1, 5, 16] [0, 1, 5, 16]).seq (VCode.cond (Opd.t 16) ((VCode.region none [{ dst := some 4, op := VOp.asg (Opd.c (SV.p (PV.bool true))), after := [], guard := none }] [4] [4]).seq VCode.ret) VCode.skip))).seq (VCode.region none [{ dst := some 10, op := VOp.mv (Opd.t 5), after := [], guard := none }, { dst := some 11, op := VOp.bin BinOp.add Ek.no (Opd.t 10) (Opd.c (SV.p (PV.int IntKind.i64 1))), after := [0], guard := none }, { dst := some 5, op := VOp.asg (Opd.t 11), after := [1, 0, 1], guard := none }] [0, 1, 5] [0, 1, 5])))
abbrev b15 : VCode := ((VCode.region none [{ dst := some 12, op := VOp.bin BinOp.lss Ek.no (Opd.t 11) (Opd.t 10), after := [], guard := none }] [3, 4, 8, 9, 10, 11, 12] [3, 4, 8, 9, 10, 11, 12]).seq ((VCode.cond (Opd.t 12) VCode.skip (VCode.exit 0)).seq ((VCode.block 1 ((VCode.region none [{ dst := some 13, op := VOp.mv (Opd.t 11), after := [], guard := none }, { dst := some 14, op := VOp.iaddrS 1 (Opd.t 9) (Opd.t 11), after := [], guard := none }, { dst := some 15, op := VOp.load none (Opd.t 14), after := [1], guard := none }, { dst := some 5, op := VOp.asg (Opd.t 13), after := [0, 0, 1, 2], guard := none }, { dst := some 6, op := VOp.asg (Opd.t 15), after := [2, 3, 0, 1, 2, 3], guard := none }] [3, 4, 5, 6, 8, 9, 10, 11, 13, 15] [3, 4, 5, 6, 8, 9, 10, 11, 13, 15]).seq (((VCode.region none [{ dst := some 16, op := VOp.mv (Opd.t 6), after := [], guard := none }, { dst := some 17, op := VOp.bin BinOp.eql Ek.no (Opd.t 16) (Opd.c (SV.p (PV.int IntKind.u8 35))), after := [0], guard := none }] [3, 4, 5, 6, 8, 9, 10, 11, 13, 15, 17] [3, 4, 5, 6, 8, 9, 10, 11, 13, 15, 17]).seq (VCode.cond (Opd.t 17) (VCode.region none [{ dst := some 4, op := VOp.asg (Opd.c (SV.p (PV.bool true))), after := [], guard := none }] [3, 4, 5, 6, 8, 9, 10, 11, 13, 15] [3, 4, 5, 6, 8, 9, 10, 11, 13, 15]) VCode.skip)).seq (((VCode.region none [{ dst := some 18, op := VOp.mv (Opd.t 6), after := [], guard := none }, { dst := some 19, op := VOp.bin BinOp.eql Ek.no (Opd.t 18) (Opd.c (SV.p (PV.int IntKind.u8 10))), after := [0], guard := none }] [3, 4, 5, 8, 9, 10, 11, 13, 19] [3, 4, 5, 8, 9, 10, 11, 13, 19]).seq (VCode.cond (Opd.t 19) (VCode.region none [{ dst := some 4, op := VOp.asg (Opd.c (SV.p (PV.bool false))), after := [], guard := none }] [3, 4, 5, 8, 9, 10, 11, 13] [3, 4, 5, 8, 9, 10, 11, 13]) VCode.skip)).seq ((VCode.region none [{ dst := some 20, op := VOp.mv (Opd.t 4), after := [], guard := none }] [3, 4, 5, 8, 9, 10, 11, 13, 20] [3, 4, 5, 8, 9, 10, 11, 13, 20]).seq (VCode.cond (Opd.t 20) (VCode.region none [{ dst := some 21, op := VOp.mv (Opd.t 3), after := [], guard := none }, { dst := some 22, op := VOp.mv (Opd.t 5), after := [], guard := none }, { dst := some 23, op := VOp.iaddrS 1 (Opd.t 21) (Opd.t 22), after := [0, 1, 0, 1], guard := none }, { dst := none, op := VOp.store 1 (Opd.t 23) (Opd.c (SV.p (PV.int IntKind.u8 32))), after := [2, 0, 1], guard := none }] [3, 4, 8, 9, 10, 11] [3, 4, 8, 9, 10, 11]) VCode.skip)))))).seq (VCode.region none [{ dst := some 24, op := VOp.bin BinOp.add Ek.no (Opd.t 11) (Opd.c (SV.p (PV.int IntKind.i64 1))), after := [], guard := none }, { dst := some 11, op := VOp.mv (Opd.t 24), after := [0], guard := none }] [3, 4, 8, 9, 10, 11] [3, 4, 8, 9, 10, 11]))))

def q16 (G : List UInt8 → Bool) (W : Int → List UInt8 → Bool) : List SV → Option SV
  | [.p (.int .u8 c), .p (.str s)] => match G s with | true => some (.p (.bool (W c s))) | false => none
  | _ => none
def q15 (G : List UInt8 → Bool) (B : List UInt8 → List UInt8) : List SV → Option SV
  | [.p (.str s)] => match G s with | true => some (.p (.str (B s))) | false => none
  | _ => none
def ps8 (G : List UInt8 → Bool) (W : Int → List UInt8 → Bool) (B : List UInt8 → List UInt8) : List (Nat × Prim) := [(16, .q (q16 G W)), (15, .q (q15 G B))]
abbrev EV (F : Fns) (fns) (G : GT) (W : WT) (B : BT) := @S.evS (symA F) (T' fns (look (ps8 G W B))) n5
abbrev b8 : VCode := (((VCode.region none [{ dst := some 17, op := VOp.mv (Opd.t 6), after := [], guard := none }, { dst := some 18, op := VOp.mv (Opd.t 0), after := [], guard := none }, { dst := some 19, op := VOp.len true (Opd.t 18), after := [1], guard := none }, { dst := some 20, op := VOp.bin BinOp.lss Ek.no (Opd.t 17) (Opd.t 19), after := [0, 2], guard := none }] [0, 5, 6, 7, 16, 20, 44, 60, 63, 160, 161] [0, 5, 6, 7, 16, 20, 44, 60, 63, 160, 161]).seq (VCode.cond (Opd.t 20) VCode.skip (VCode.exit 0))).seq (VCode.block 1 (((VCode.region none [{ dst := some 21, op := VOp.mv (Opd.t 0), after := [], guard := none }, { dst := some 22, op := VOp.mv (Opd.t 6), after := [], guard := none }, { dst := some 23, op := VOp.idxS (Opd.t 21) (Opd.t 22), after := [0, 1], guard := none }, { dst := some 24, op := VOp.call 16 [Opd.t 23, Opd.c (SV.p (PV.str [32, 9, 10, 13]))], after := [2], guard := none }] [0, 5, 6, 7, 16, 24, 44, 60, 63, 160, 161] [0, 5, 6, 7, 16, 24, 44, 60, 63, 160, 161]).seq (VCode.cond (Opd.t 24) ((VCode.region none [{ dst := some 25, op := VOp.mv (Opd.t 6), after := [], guard := none }, { dst := some 26, op := VOp.bin BinOp.add Ek.no (Opd.t 25) (Opd.c (SV.p (PV.int IntKind.i64 1))), after := [0], guard := none }, { dst := some 6, op := VOp.asg (Opd.t 26), after := [1, 0, 1], guard := none }] [0, 5, 6, 7, 16, 44, 60, 63, 160, 161] [0, 5, 6, 7, 16, 44, 60, 63, 160, 161]).seq (VCode.exit 1)) VCode.skip)).seq (((VCode.region none [{ dst := some 27, op := VOp.mv (Opd.t 6), after := [], guard := none }, { dst := some 28, op := VOp.bin BinOp.add Ek.no (Opd.t 27) (Opd.c (SV.p (PV.int IntKind.i64 1))), after := [0], guard := none }, { dst := some 29, op := VOp.mv (Opd.t 0), after := [], guard := none }, { dst := some 30, op := VOp.len true (Opd.t 29), after := [2], guard := none }, { dst := some 31, op := VOp.bin BinOp.lss Ek.no (Opd.t 28) (Opd.t 30), after := [1, 3], guard := none }, { dst := some 32, op := VOp.mv (Opd.t 31), after := [4], guard := none }, { dst := some 33, op := VOp.mv (Opd.t 0), after := [5], guard := some (5, true) }, { dst := some 34, op := VOp.mv (Opd.t 6), after := [5], guard := some (5, true) }, { dst := some 35, op := VOp.mv (Opd.t 6), after := [5], guard := some (5, true) }, { dst := some 36, op := VOp.bin BinOp.add Ek.no (Opd.t 35) (Opd.c (SV.p (PV.int IntKind.i64 2))), after := [8, 5], guard := some (5, true) }, { dst := some 37, op := VOp.slc true 1 (Opd.t 33) (some (Opd.t 34)) (some (Opd.t 36)) none, after := [6, 7, 9, 5], guard := some (5, true) }, { dst := some 38, op := VOp.bin BinOp.eql Ek.no (Opd.t 37) (Opd.c (SV.p (PV.str [45, 62]))), after := [10, 5], guard := some (5, true) }, { dst := some 39, op := VOp.pick (Opd.t 32) (Opd.t 38) (Opd.c (SV.p (PV.bool false))), after := [5, 11], guard := none }] [0, 5, 6, 7, 16, 39, 44, 60, 63, 160, 161] [0, 5, 6, 7, 16, 39, 44, 60, 63, 160, 161]).seq (VCode.cond (Opd.t 39) ((VCode.region none [{ dst := some 40, op := VOp.mv (Opd.t 5), after := [], guard := none }, { dst := some 41, op := VOp.mv (Opd.t 6), after := [], guard := none }, { dst := some 42, op := VOp.build [SV.p (PV.int IntKind.i64 0), SV.p (PV.str []), SV.p (PV.int IntKind.i64 0), SV.p (PV.int IntKind.i64 0)] [(0, 1, Opd.c (SV.p (PV.int IntKind.i64 3))), (1, 1, Opd.c (SV.p (PV.str [45, 62]))), (3, 1, Opd.t 41)], after := [1], guard := none }, { dst := some 43, op := VOp.lit 4 [PV.int IntKind.i64 0, PV.str [], PV.int IntKind.i64 0, PV.int IntKind.i64 0] 1 [(0, Opd.t 42)], after := [2], guard := none }, { dst := some 44, op := VOp.append false 4 40 (Opd.t 40) (Opd.t 43), after := [0, 3], guard := none }, { dst := some 5, op := VOp.asg (Opd.t 44), after := [4, 4, 0, 1, 2, 3, 4], guard := none }] [0, 5, 6, 7, 16, 44, 60, 63, 160, 161] [0, 5, 6, 7, 16, 44, 60, 63, 160, 161]).seq ((VCode.region none [{ dst := some 45, op := VOp.mv (Opd.t 6), after := [], guard := none }, { dst := some 46, op := VOp.bin BinOp.add Ek.no (Opd.t 45) (Opd.c (SV.p (PV.int IntKind.i64 2))), after := [0], guard := none }, { dst := some 6, op := VOp.asg (Opd.t 46), after := [1, 0, 1], guard := none }] [0, 5, 6, 7, 16, 44, 60, 63, 160, 161] [0, 5, 6, 7, 16, 44, 60, 63, 160, 161]).seq (VCode.exit 1))) VCode.skip)).seq (((VCode.region none [{ dst := some 47, op := VOp.mv (Opd.t 0), after := [], guard := none }, { dst := some 48, op := VOp.mv (Opd.t 6), after := [], guard := none }, { dst := some 49, op := VOp.idxS (Opd.t 47) (Opd.t 48), after := [0, 1], guard := none }, { dst := some 50, op := VOp.call 16 [Opd.t 49, Opd.c (SV.p (PV.str [61, 44, 59, 38, 33, 58, 45]))], after := [2], guard := none }] [0, 5, 6, 7, 16, 44, 50, 60, 63, 160, 161] [0, 5, 6, 7, 16, 44, 50, 60, 63, 160, 161]).seq (VCode.cond (Opd.t 50) ((VCode.region none [{ dst := some 51, op := VOp.mv (Opd.t 5), after := [], guard := none }, { dst := some 52, op := VOp.mv (Opd.t 0), after := [], guard := none }, { dst := some 53, op := VOp.mv (Opd.t 6), after := [], guard := none }, { dst := some 54, op := VOp.mv (Opd.t 6), after := [], guard := none }, { dst := some 55, op := VOp.bin BinOp.add Ek.no (Opd.t 54) (Opd.c (SV.p (PV.int IntKind.i64 1))), after := [3], guard := none }, { dst := some 56, op := VOp.slc true 1 (Opd.t 52) (some (Opd.t 53)) (some (Opd.t 55)) none, after := [1, 2, 4], guard := none }, { dst := some 57, op := VOp.mv (Opd.t 6), after := [], guard := none }, { dst := some 58, op := VOp.build [SV.p (PV.int IntKind.i64 0), SV.p (PV.str []), SV.p (PV.int IntKind.i64 0), SV.p (PV.int IntKind.i64 0)] [(0, 1, Opd.c (SV.p (PV.int IntKind.i64 3))), (1, 1, Opd.t 56), (3, 1, Opd.t 57)], after := [5, 6], guard := none }, { dst := some 59, op := VOp.lit 4 [PV.int IntKind.i64 0, PV.str [], PV.int IntKind.i64 0, PV.int IntKind.i64 0] 1 [(0, Opd.t 58)], after := [7], guard := none }, { dst := some 60, op := VOp.append false 4 40 (Opd.t 51) (Opd.t 59), after := [0, 8], guard := none }, { dst := some 5, op := VOp.asg (Opd.t 60), after := [9, 9, 0, 1, 2, 3, 4, 5, 6, 7, 8, 9], guard := none }] [0, 5, 6, 7, 16, 44, 60, 63, 160, 161] [0, 5, 6, 7, 16, 44, 60, 63, 160, 161]).seq ((VCode.region none [{ dst := some 61, op := VOp.mv (Opd.t 6), after := [], guard := none }, { dst := some 62, op := VOp.bin BinOp.add Ek.no (Opd.t 61) (Opd.c (SV.p (PV.int IntKind.i64 1))), after := [0], guard := none }, { dst := some 6, op := VOp.asg (Opd.t 62), after := [1, 0, 1], guard := none }] [0, 5, 6, 7, 16, 44, 60, 63, 160, 161] [0, 5, 6, 7, 16, 44, 60, 63, 160, 161]).seq (VCode.exit 1))) VCode.skip)).seq ((VCode.region none [{ dst := some 63, op := VOp.mv (Opd.t 6), after := [], guard := none }, { dst := some 7, op := VOp.asg (Opd.t 63), after := [0, 0], guard := none }] [0, 5, 6, 7, 16, 44, 60, 63, 160, 161] [0, 5, 6, 7, 16, 44, 60, 63, 160, 161]).seq ((VCode.region none [{ dst := some 8, op := VOp.asg (Opd.c (SV.p (PV.bool true))), after := [], guard := none }] [0, 5, 6, 7, 8, 16, 44, 60, 63, 86, 160, 161] [0, 5, 6, 7, 8, 16, 44, 60, 63, 86, 160, 161]).seq ((VCode.block 2 (((VCode.region none [{ dst := some 64, op := VOp.mv (Opd.t 7), after := [], guard := none }, { dst := some 65, op := VOp.mv (Opd.t 0), after := [], guard := none }, { dst := some 66, op := VOp.len true (Opd.t 65), after := [1], guard := none }, { dst := some 67, op := VOp.bin BinOp.lss Ek.no (Opd.t 64) (Opd.t 66), after := [0, 2], guard := none }, { dst := some 68, op := VOp.mv (Opd.t 67), after := [3], guard := none }, { dst := some 69, op := VOp.mv (Opd.t 0), after := [4], guard := some (4, true) }, { dst := some 70, op := VOp.mv (Opd.t 7), after := [4], guard := some (4, true) }, { dst := some 71, op := VOp.idxS (Opd.t 69) (Opd.t 70), after := [5, 6, 4], guard := some (4, true) }, { dst := some 72, op := VOp.call 16 [Opd.t 71, Opd.c (SV.p (PV.str [97, 98, 99, 100, 101, 102, 103, 104, 105, 106, 107, 108, 109, 110, 111, 112, 113, 114, 115, 116, 117, 118, 119, 120, 121, 122]))], after := [7, 4, 4], guard := some (4, true) }, { dst := some 73, op := VOp.mv (Opd.t 72), after := [8, 8, 4], guard := some (4, true) }, { dst := some 74, op := VOp.mv (Opd.t 0), after := [9], guard := some (9, false) }, { dst := some 75, op := VOp.mv (Opd.t 7), after := [9], guard := some (9, false) }, { dst := some 76, op := VOp.idxS (Opd.t 74) (Opd.t 75), after := [10, 11, 9], guard := some (9, false) }, { dst := some 77, op := VOp.call 16 [Opd.t 76, Opd.c (SV.p (PV.str [48, 49, 50, 51, 52, 53, 54, 55, 56, 57]))], after := [12, 9, 9], guard := some (9, false) }, { dst := some 78, op := VOp.pick (Opd.t 73) (Opd.c (SV.p (PV.bool true))) (Opd.t 77), after := [9, 13, 4], guard := some (4, true) }, { dst := some 79, op := VOp.pick (Opd.t 68) (Opd.t 78) (Opd.c (SV.p (PV.bool false))), after := [4, 14], guard := none }] [0, 5, 6, 7, 8, 16, 44, 60, 63, 79, 86, 160, 161] [0, 5, 6, 7, 8, 16, 44, 60, 63, 79, 86, 160, 161]).seq (VCode.cond (Opd.t 79) VCode.skip (VCode.exit 2))).seq (VCode.block 3 ((VCode.region none [{ dst := some 80, op := VOp.mv (Opd.t 8), after := [], guard := none }, { dst := some 81, op := VOp.mv (Opd.t 80), after := [0], guard := none }, { dst := some 82, op := VOp.mv (Opd.t 0), after := [1], guard := some (1, true) }, { dst := some 83, op := VOp.mv (Opd.t 7), after := [1], guard := some (1, true) }, { dst := some 84, op := VOp.idxS (Opd.t 82) (Opd.t 83), after := [2, 3, 1], guard := some (1, true) }, { dst := some 85, op := VOp.call 16 [Opd.t 84, Opd.c (SV.p (PV.str [48, 49, 50, 51, 52, 53, 54, 55, 56, 57]))], after := [4, 1, 1], guard := some (1, true) }, { dst := some 86, op := VOp.pick (Opd.t 81) (Opd.t 85) (Opd.c (SV.p (PV.bool false))), after := [1, 5], guard := none }, { dst := some 8, op := VOp.asg (Opd.t 86), after := [6, 5, 0, 1, 2, 3, 4, 5, 6], guard := none }] [0, 5, 6, 7, 8, 16, 44, 60, 63, 86, 160, 161] [0, 5, 6, 7, 8, 16, 44, 60, 63, 86, 160, 161]).seq (VCode.region none [{ dst := some 87, op := VOp.mv (Opd.t 7), after := [], guard := none }, { dst := some 88, op := VOp.bin BinOp.add Ek.no (Opd.t 87) (Opd.c (SV.p (PV.int IntKind.i64 1))), after := [0], guard := none }, { dst := some 7, op := VOp.asg (Opd.t 88), after := [1, 0, 1], guard := none }] [0, 5, 6, 7, 8, 16, 44, 60, 63, 86, 160, 161] [0, 5, 6, 7, 8, 16, 44, 60, 63, 86, 160, 161])))).loop).seq ((VCode.region none [{ dst := some 89, op := VOp.mv (Opd.t 0), after := [], guard := none }, { dst := some 90, op := VOp.mv (Opd.t 6), after := [], guard := none }, { dst := some 91, op := VOp.mv (Opd.t 7), after := [], guard := none }, { dst := some 92, op := VOp.slc true 1 (Opd.t 89) (some (Opd.t 90)) (some (Opd.t 91)) none, after := [0, 1, 2], guard := none }, { dst := some 9, op := VOp.asg (Opd.t 92), after := [3, 0, 1, 2, 3], guard := none }] [0, 5, 6, 7, 8, 9, 16, 44, 60, 63, 86, 160, 161] [0, 5, 6, 7, 8, 9, 16, 44, 60, 63, 86, 160, 161]).seq (((VCode.region none [{ dst := some 93, op := VOp.mv (Opd.t 9), after := [], guard := none }, { dst := some 94, op := VOp.len true (Opd.t 93), after := [0], guard := none }, { dst := some 95, op := VOp.bin BinOp.eql Ek.no (Opd.t 94) (Opd.c (SV.p (PV.int IntKind.i64 0))), after := [1], guard := none }, { dst := some 96, op := VOp.mv (Opd.t 95), after := [2], guard := none }, { dst := some 97, op := VOp.mv (Opd.t 8), after := [3], guard := some (3, false) }, { dst := some 98, op := VOp.un UnOp.not (Opd.t 97), after := [4, 3], guard := some (3, false) }, { dst := some 99, op := VOp.mv (Opd.t 98), after := [5, 3, 3], guard := some (3, false) }, { dst := some 100, op := VOp.mv (Opd.t 9), after := [6], guard := some (6, true) }, { dst := some 101, op := VOp.idxS (Opd.t 100) (Opd.c (SV.p (PV.int IntKind.i64 0))), after := [7, 6], guard := some (6, true) }, { dst := some 102, op := VOp.call 16 [Opd.t 101, Opd.c (SV.p (PV.str [48, 49, 50, 51, 52, 53, 54, 55, 56, 57]))], after := [8, 6, 6], guard := some (6, true) }, { dst := some 103, op := VOp.pick (Opd.t 99) (Opd.t 102) (Opd.c (SV.p (PV.bool false))), after := [6, 9, 3], guard := some (3, false) }, { dst := some 104, op := VOp.pick (Opd.t 96) (Opd.c (SV.p (PV.bool true))) (Opd.t 103), after := [3, 10], guard := none }, { dst := some 105, op := VOp.mv (Opd.t 104), after := [11, 9], guard := none }, { dst := some 106, op := VOp.mv (Opd.t 8), after := [12], guard := some (12, false) }, { dst := some 107, op := VOp.mv (Opd.t 106), after := [13, 12, 12], guard := some (12, false) }, { dst := some 108, op := VOp.mv (Opd.t 9), after := [14], guard := some (14, true) }, { dst := some 109, op := VOp.len true (Opd.t 108), after := [15, 14], guard := some (14, true) }, { dst := some 110, op := VOp.bin BinOp.gtr Ek.no (Opd.t 109) (Opd.c (SV.p (PV.int IntKind.i64 1))), after := [16, 14], guard := some (14, true) }, { dst := some 111, op := VOp.pick (Opd.t 107) (Opd.t 110) (Opd.c (SV.p (PV.bool false))), after := [14, 17, 12], guard := some (12, false) }, { dst := some 112, op := VOp.mv (Opd.t 111), after := [18, 14, 12], guard := some (12, false) }, { dst := some 113, op := VOp.mv (Opd.t 9), after := [19], guard := some (19, true) }, { dst := some 114, op := VOp.len true (Opd.t 113), after := [20, 19], guard := some (19, true) }, { dst := some 115, op := VOp.bin BinOp.lss Ek.no (Opd.t 114) (Opd.c (SV.p (PV.int IntKind.i64 7))), after := [21, 19], guard := some (19, true) }, { dst := some 116, op := VOp.pick (Opd.t 112) (Opd.t 115) (Opd.c (SV.p (PV.bool false))), after := [19, 22, 12], guard := some (12, false) }, { dst := some 117, op := VOp.mv (Opd.t 116), after := [23, 19, 12], guard := some (12, false) }, { dst := some 118, op := VOp.mv (Opd.t 9), after := [24], guard := some (24, true) }, { dst := some 119, op := VOp.idxS (Opd.t 118) (Opd.c (SV.p (PV.int IntKind.i64 0))), after := [25, 24], guard := some (24, true) }, { dst := some 120, op := VOp.bin BinOp.eql Ek.no (Opd.t 119) (Opd.c (SV.p (PV.int IntKind.u8 48))), after := [26, 24], guard := some (24, true) }, { dst := some 121, op := VOp.pick (Opd.t 117) (Opd.t 120) (Opd.c (SV.p (PV.bool false))), after := [24, 27, 12], guard := some (12, false) }, { dst := some 122, op := VOp.pick (Opd.t 105) (Opd.c (SV.p (PV.bool true))) (Opd.t 121), after := [12, 28], guard := none }] [0, 5, 6, 7, 8, 9, 16, 44, 60, 63, 86, 122, 160, 161] [0, 5, 6, 7, 8, 9, 16, 44, 60, 63, 86, 122, 160, 161]).seq (VCode.cond (Opd.t 122) ((VCode.region none [{ dst := some 123, op := VOp.mv (Opd.t 6), after := [], guard := none }, { dst := some 2, op := VOp.asg (Opd.c (SV.p PV.nils)), after := [], guard := none }, { dst := some 3, op := VOp.asg (Opd.t 123), after := [0, 1, 0, 1], guard := none }, { dst := some 4, op := VOp.asg (Opd.c (SV.p (PV.int IntKind.i64 20))), after := [2, 0, 1, 2], guard := none }] [2, 3, 4, 5, 6, 7, 44, 60, 63, 123, 135, 160, 161, 162] [2, 3, 4, 5, 6, 7, 44, 60, 63, 123, 135, 160, 161, 162]).seq VCode.ret) VCode.skip)).seq (((VCode.region none [{ dst := some 124, op := VOp.mv (Opd.t 8), after := [], guard := none }, { dst := some 125, op := VOp.mv (Opd.t 124), after := [0], guard := none }, { dst := some 126, op := VOp.mv (Opd.t 9), after := [1], guard := some (1, true) }, { dst := some 127, op := VOp.len true (Opd.t 126), after := [2, 1], guard := some (1, true) }, { dst := some 128, op := VOp.bin BinOp.gtr Ek.no (Opd.t 127) (Opd.c (SV.p (PV.int IntKind.i64 6))), after := [3, 1], guard := some (1, true) }, { dst := some 129, op := VOp.pick (Opd.t 125) (Opd.t 128) (Opd.c (SV.p (PV.bool false))), after := [1, 4], guard := none }, { dst := some 130, op := VOp.mv (Opd.t 129), after := [5, 1], guard := none }, { dst := some 131, op := VOp.mv (Opd.t 9), after := [6], guard := some (6, false) }, { dst := some 132, op := VOp.len true (Opd.t 131), after := [7, 6], guard := some (6, false) }, { dst := some 133, op := VOp.bin BinOp.gtr Ek.no (Opd.t 132) (Opd.c (SV.p (PV.int IntKind.i64 16))), after := [8, 6], guard := some (6, false) }, { dst := some 134, op := VOp.pick (Opd.t 130) (Opd.c (SV.p (PV.bool true))) (Opd.t 133), after := [6, 9], guard := none }] [0, 5, 6, 7, 8, 9, 16, 44, 60, 63, 86, 134, 160, 161] [0, 5, 6, 7, 8, 9, 16, 44, 60, 63, 86, 134, 160, 161]).seq (VCode.cond (Opd.t 134) ((VCode.region none [{ dst := some 135, op := VOp.mv (Opd.t 6), after := [], guard := none }, { dst := some 2, op := VOp.asg (Opd.c (SV.p PV.nils)), after := [], guard := none }, { dst := some 3, op := VOp.asg (Opd.t 135), after := [0, 1, 0, 1], guard := none }, { dst := some 4, op := VOp.asg (Opd.c (SV.p (PV.int IntKind.i64 6))), after := [2, 0, 1, 2], guard := none }] [2, 3, 4, 5, 6, 7, 44, 60, 63, 123, 135, 160, 161, 162] [2, 3, 4, 5, 6, 7, 44, 60, 63, 123, 135, 160, 161, 162]).seq VCode.ret) VCode.skip)).seq ((VCode.region none [{ dst := some 136, op := VOp.mv (Opd.t 9), after := [], guard := none }, { dst := some 137, op := VOp.mv (Opd.t 6), after := [], guard := none }, { dst := some 138, op := VOp.build [SV.p (PV.int IntKind.i64 0), SV.p (PV.str []), SV.p (PV.int IntKind.i64 0), SV.p (PV.int IntKind.i64 0)] [(0, 1, Opd.c (SV.p (PV.int IntKind.i64 1))), (1, 1, Opd.t 136), (3, 1, Opd.t 137)], after := [0, 1], guard := none }, { dst := some 10, op := VOp.alloc false [PV.int IntKind.i64 0, PV.str [], PV.int IntKind.i64 0, PV.int IntKind.i64 0], after := [], guard := none }, { dst := none, op := VOp.store 4 (Opd.t 10) (Opd.t 138), after := [3, 2, 0, 1, 2, 3], guard := none }] [0, 5, 6, 7, 8, 9, 10, 16, 44, 60, 63, 86, 160, 161] [0, 5, 6, 7, 8, 9, 10, 16, 44, 60, 63, 86, 160, 161]).seq (((VCode.region none [{ dst := some 139, op := VOp.mv (Opd.t 8), after := [], guard := none }] [0, 5, 6, 7, 8, 9, 10, 16, 44, 60, 63, 86, 139, 160, 161] [0, 5, 6, 7, 8, 9, 10, 16, 44, 60, 63, 86, 139, 160, 161]).seq (VCode.cond (Opd.t 139) ((VCode.region none [{ dst := some 140, op := VOp.faddr 0 (Opd.t 10), after := [], guard := none }, { dst := none, op := VOp.store 1 (Opd.t 140) (Opd.c (SV.p (PV.int IntKind.i64 2))), after := [0], guard := none }] [0, 5, 6, 7, 9, 10, 16, 44, 60, 63, 160, 161] [0, 5, 6, 7, 9, 10, 16, 44, 60, 63, 160, 161]).seq ((VCode.region none [{ dst := some 11, op := VOp.asg (Opd.c (SV.p (PV.int IntKind.i64 0))), after := [], guard := none }] [0, 5, 6, 7, 9, 10, 11, 16, 44, 60, 63, 160, 161] [0, 5, 6, 7, 9, 10, 11, 16, 44, 60, 63, 160, 161]).seq (VCode.block 4 (((VCode.region none [{ dst := some 141, op := VOp.mv (Opd.t 11), after := [], guard := none }, { dst := some 142, op := VOp.mv (Opd.t 9), after := [], guard := none }, { dst := some 143, op := VOp.len true (Opd.t 142), after := [1], guard := none }, { dst := some 144, op := VOp.bin BinOp.lss Ek.no (Opd.t 141) (Opd.t 143), after := [0, 2], guard := none }] [0, 5, 6, 7, 9, 10, 11, 16, 44, 60, 63, 144, 160, 161] [0, 5, 6, 7, 9, 10, 11, 16, 44, 60, 63, 144, 160, 161]).seq (VCode.cond (Opd.t 144) VCode.skip (VCode.exit 4))).seq ((VCode.block 5 (VCode.region (some ([10], OT.one 0 (OT.one 1 (OT.one 2 (OT.one 3 (OT.one 4 (OT.one 5 (OT.one 6 (OT.one 7 (OT.one 8 (OT.one 9 (OT.one 10 OT.fin)))))))))))) [{ dst := some 147, op := VOp.faddr 2 (Opd.t 10), after := [], guard := none }, { dst := some 148, op := VOp.load none (Opd.t 147), after := [0], guard := none }, { dst := some 149, op := VOp.bin BinOp.mul Ek.no (Opd.t 148) (Opd.c (SV.p (PV.int IntKind.i64 10))), after := [1], guard := none }, { dst := some 150, op := VOp.mv (Opd.t 9), after := [], guard := none }, { dst := some 151, op := VOp.mv (Opd.t 11), after := [], guard := none }, { dst := some 152, op := VOp.idxS (Opd.t 150) (Opd.t 151), after := [3, 4], guard := none }, { dst := some 153, op := VOp.conv (Cv.int IntKind.i64) (Opd.t 152), after := [5], guard := none }, { dst := some 154, op := VOp.bin BinOp.add Ek.no (Opd.t 149) (Opd.t 153), after := [2, 6], guard := none }, { dst := some 155, op := VOp.bin BinOp.sub Ek.no (Opd.t 154) (Opd.c (SV.p (PV.int IntKind.i64 48))), after := [7], guard := none }, { dst := some 156, op := VOp.faddr 2 (Opd.t 10), after := [0, 1, 2, 3, 4, 5, 6, 7, 8], guard := none }, { dst := none, op := VOp.store 1 (Opd.t 156) (Opd.t 155), after := [9, 8, 0, 1, 2, 3, 4, 5, 6, 7, 8], guard := none }] [0, 5, 6, 7, 9, 10, 11, 16, 44, 60, 63, 160, 161] [0, 5, 6, 7, 9, 10, 11, 16, 44, 60, 63, 160, 161])).seq (VCode.region none [{ dst := some 145, op := VOp.mv (Opd.t 11), after := [], guard := none }, { dst := some 146, op := VOp.bin BinOp.add Ek.no (Opd.t 145) (Opd.c (SV.p (PV.int IntKind.i64 1))), after := [0], guard := none }, { dst := some 11, op := VOp.asg (Opd.t 146), after := [1, 0, 1], guard := none }] [0, 5, 6, 7, 9, 10, 11, 16, 44, 60, 63, 160, 161] [0, 5, 6, 7, 9, 10, 11, 16, 44, 60, 63, 160, 161]))).loop))) VCode.skip)).seq ((VCode.region none [{ dst := some 157, op := VOp.mv (Opd.t 5), after := [], guard := none }, { dst := some 158, op := VOp.load (some 4) (Opd.t 10), after := [], guard := none }, { dst := some 159, op := VOp.lit 4 [PV.int IntKind.i64 0, PV.str [], PV.int IntKind.i64 0, PV.int IntKind.i64 0] 1 [(0, Opd.t 158)], after := [1], guard := none }, { dst := some 160, op := VOp.append false 4 40 (Opd.t 157) (Opd.t 159), after := [0, 2], guard := none }, { dst := some 5, op := VOp.asg (Opd.t 160), after := [3, 3, 0, 1, 2, 3], guard := none }] [0, 5, 6, 7, 16, 44, 60, 63, 160, 161] [0, 5, 6, 7, 16, 44, 60, 63, 160, 161]).seq (VCode.region none [{ dst := some 161, op := VOp.mv (Opd.t 7), after := [], guard := none }, { dst := some 6, op := VOp.asg (Opd.t 161), after := [0, 0], guard := none }] [0, 5, 6, 7, 16, 44, 60, 63, 160, 161] [0, 5, 6, 7, 16, 44, 60, 63, 160, 161])))))))))))))))
abbrev b8k : VCode := (((VCode.region none [{ dst := some 64, op := VOp.mv (Opd.t 7), after := [], guard := none }, { dst := some 65, op := VOp.mv (Opd.t 0), after := [], guard := none }, { dst := some 66, op := VOp.len true (Opd.t 65), after := [1], guard := none }, { dst := some 67, op := VOp.bin BinOp.lss Ek.no (Opd.t 64) (Opd.t 66), after := [0, 2], guard := none }, { dst := some 68, op := VOp.mv (Opd.t 67), after := [3], guard := none }, { dst := some 69, op := VOp.mv (Opd.t 0), after := [4], guard := some (4, true) }, { dst := some 70, op := VOp.mv (Opd.t 7), after := [4], guard := some (4, true) }, { dst := some 71, op := VOp.idxS (Opd.t 69) (Opd.t 70), after := [5, 6, 4], guard := some (4, true) }, { dst := some 72, op := VOp.call 16 [Opd.t 71, Opd.c (SV.p (PV.str [97, 98, 99, 100, 101, 102, 103, 104, 105, 106, 107, 108, 109, 110, 111, 112, 113, 114, 115, 116, 117, 118, 119, 120, 121, 122]))], after := [7, 4, 4], guard := some (4, true) }, { dst := some 73, op := VOp.mv (Opd.t 72), after := [8, 8, 4], guard := some (4, true) }, { dst := some 74, op := VOp.mv (Opd.t 0), after := [9], guard := some (9, false) }, { dst := some 75, op := VOp.mv (Opd.t 7), after := [9], guard := some (9, false) }, { dst := some 76, op := VOp.idxS (Opd.t 74) (Opd.t 75), after := [10, 11, 9], guard := some (9, false) }, { dst := some 77, op := VOp.call 16 [Opd.t 76, Opd.c (SV.p (PV.str [48, 49, 50, 51, 52, 53, 54, 55, 56, 57]))], after := [12, 9, 9], guard := some (9, false) }, { dst := some 78, op := VOp.pick (Opd.t 73) (Opd.c (SV.p (PV.bool true))) (Opd.t 77), after := [9, 13, 4], guard := some (4, true) }, { dst := some 79, op := VOp.pick (Opd.t 68) (Opd.t 78) (Opd.c (SV.p (PV.bool false))), after := [4, 14], guard := none }] [0, 5, 6, 7, 8, 16, 44, 60, 63, 79, 86, 160, 161] [0, 5, 6, 7, 8, 16, 44, 60, 63, 79, 86, 160, 161]).seq (VCode.cond (Opd.t 79) VCode.skip (VCode.exit 2))).seq (VCode.block 3 ((VCode.region none [{ dst := some 80, op := VOp.mv (Opd.t 8), after := [], guard := none }, { dst := some 81, op := VOp.mv (Opd.t 80), after := [0], guard := none }, { dst := some 82, op := VOp.mv (Opd.t 0), after := [1], guard := some (1, true) }, { dst := some 83, op := VOp.mv (Opd.t 7), after := [1], guard := some (1, true) }, { dst := some 84, op := VOp.idxS (Opd.t 82) (Opd.t 83), after := [2, 3, 1], guard := some (1, true) }, { dst := some 85, op := VOp.call 16 [Opd.t 84, Opd.c (SV.p (PV.str [48, 49, 50, 51, 52, 53, 54, 55, 56, 57]))], after := [4, 1, 1], guard := some (1, true) }, { dst := some 86, op := VOp.pick (Opd.t 81) (Opd.t 85) (Opd.c (SV.p (PV.bool false))), after := [1, 5], guard := none }, { dst := some 8, op := VOp.asg (Opd.t 86), after := [6, 5, 0, 1, 2, 3, 4, 5, 6], guard := none }] [0, 5, 6, 7, 8, 16, 44, 60, 63, 86, 160, 161] [0, 5, 6, 7, 8, 16, 44, 60, 63, 86, 160, 161]).seq (VCode.region none [{ dst := some 87, op := VOp.mv (Opd.t 7), after := [], guard := none }, { dst := some 88, op := VOp.bin BinOp.add Ek.no (Opd.t 87) (Opd.c (SV.p (PV.int IntKind.i64 1))), after := [0], guard := none }, { dst := some 7, op := VOp.asg (Opd.t 88), after := [1, 0, 1], guard := none }] [0, 5, 6, 7, 8, 16, 44, 60, 63, 86, 160, 161] [0, 5, 6, 7, 8, 16, 44, 60, 63, 86, 160, 161]))))
abbrev b8j : VCode := (((VCode.region none [{ dst := some 141, op := VOp.mv (Opd.t 11), after := [], guard := none }, { dst := some 142, op := VOp.mv (Opd.t 9), after := [], guard := none }, { dst := some 143, op := VOp.len true (Opd.t 142), after := [1], guard := none }, { dst := some 144, op := VOp.bin BinOp.lss Ek.no (Opd.t 141) (Opd.t 143), after := [0, 2], guard := none }] [0, 5, 6, 7, 9, 10, 11, 16, 44, 60, 63, 144, 160, 161] [0, 5, 6, 7, 9, 10, 11, 16, 44, 60, 63, 144, 160, 161]).seq (VCode.cond (Opd.t 144) VCode.skip (VCode.exit 4))).seq ((VCode.block 5 (VCode.region (some ([10], OT.one 0 (OT.one 1 (OT.one 2 (OT.one 3 (OT.one 4 (OT.one 5 (OT.one 6 (OT.one 7 (OT.one 8 (OT.one 9 (OT.one 10 OT.fin)))))))))))) [{ dst := some 147, op := VOp.faddr 2 (Opd.t 10), after := [], guard := none }, { dst := some 148, op := VOp.load none (Opd.t 147), after := [0], guard := none }, { dst := some 149, op := VOp.bin BinOp.mul Ek.no (Opd.t 148) (Opd.c (SV.p (PV.int IntKind.i64 10))), after := [1], guard := none }, { dst := some 150, op := VOp.mv (Opd.t 9), after := [], guard := none }, { dst := some 151, op := VOp.mv (Opd.t 11), after := [], guard := none }, { dst := some 152, op := VOp.idxS (Opd.t 150) (Opd.t 151), after := [3, 4], guard := none }, { dst := some 153, op := VOp.conv (Cv.int IntKind.i64) (Opd.t 152), after := [5], guard := none }, { dst := some 154, op := VOp.bin BinOp.add Ek.no (Opd.t 149) (Opd.t 153), after := [2, 6], guard := none }, { dst := some 155, op := VOp.bin BinOp.sub Ek.no (Opd.t 154) (Opd.c (SV.p (PV.int IntKind.i64 48))), after := [7], guard := none }, { dst := some 156, op := VOp.faddr 2 (Opd.t 10), after := [0, 1, 2, 3, 4, 5, 6, 7, 8], guard := none }, { dst := none, op := VOp.store 1 (Opd.t 156) (Opd.t 155), after := [9, 8, 0, 1, 2, 3, 4, 5, 6, 7, 8], guard := none }] [0, 5, 6, 7, 9, 10, 11, 16, 44, 60, 63, 160, 161] [0, 5, 6, 7, 9, 10, 11, 16, 44, 60, 63, 160, 161])).seq (VCode.region none [{ dst := some 145, op := VOp.mv (Opd.t 11), after := [], guard := none }, { dst := some 146, op := VOp.bin BinOp.add Ek.no (Opd.t 145) (Opd.c (SV.p (PV.int IntKind.i64 1))), after := [0], guard := none }, { dst := some 11, op := VOp.asg (Opd.t 146), after := [1, 0, 1], guard := none }] [0, 5, 6, 7, 9, 10, 11, 16, 44, 60, 63, 160, 161] [0, 5, 6, 7, 9, 10, 11, 16, 44, 60, 63, 160, 161])))
def c8h : VCode := (.seq (.region none vf8r6 [0, 5, 6, 7, 16, 20, 44, 60, 63, 160, 161] [0, 5, 6, 7, 16, 20, 44, 60, 63, 160, 161]) (.cond (.t 20) .skip (.exit 0)))
def c8_0 : VCode := (.seq (.region none vf8r7 [0, 5, 6, 7, 16, 24, 44, 60, 63, 160, 161] [0, 5, 6, 7, 16, 24, 44, 60, 63, 160, 161]) (.cond (.t 24) (.seq (.region none vf8r8 [0, 5, 6, 7, 16, 44, 60, 63, 160, 161] [0, 5, 6, 7, 16, 44, 60, 63, 160, 161]) (.exit 1)) .skip))
def c8_1 : VCode := (.seq (.region none vf8r9 [0, 5, 6, 7, 16, 39, 44, 60, 63, 160, 161] [0, 5, 6, 7, 16, 39, 44, 60, 63, 160, 161]) (.cond (.t 39) (.seq (.region none vf8r10 [0, 5, 6, 7, 16, 44, 60, 63, 160, 161] [0, 5, 6, 7, 16, 44, 60, 63, 160, 161]) (.seq (.region none vf8r11 [0, 5, 6, 7, 16, 44, 60, 63, 160, 161] [0, 5, 6, 7, 16, 44, 60, 63, 160, 161]) (.exit 1))) .skip))
def c8_2 : VCode := (.seq (.region none vf8r12 [0, 5, 6, 7, 16, 44, 50, 60, 63, 160, 161] [0, 5, 6, 7, 16, 44, 50, 60, 63, 160, 161]) (.cond (.t 50) (.seq (.region none vf8r13 [0, 5, 6, 7, 16, 44, 60, 63, 160, 161] [0, 5, 6, 7, 16, 44, 60, 63, 160, 161]) (.seq (.region none vf8r14 [0, 5, 6, 7, 16, 44, 60, 63, 160, 161] [0, 5, 6, 7, 16, 44, 60, 63, 160, 161]) (.exit 1))) .skip))
def c8_3 : VCode := (.region none vf8r15 [0, 5, 6, 7, 16, 44, 60, 63, 160, 161] [0, 5, 6, 7, 16, 44, 60, 63, 160, 161])
def c8_4 : VCode := (.region none vf8r16 [0, 5, 6, 7, 8, 16, 44, 60, 63, 86, 160, 161] [0, 5, 6, 7, 8, 16, 44, 60, 63, 86, 160, 161])
def c8_5 : VCode := (.block 2 (.loop (.seq (.seq (.region none vf8r17 [0, 5, 6, 7, 8, 16, 44, 60, 63, 79, 86, 160, 161] [0, 5, 6, 7, 8, 16, 44, 60, 63, 79, 86, 160, 161]) (.cond (.t 79) .skip (.exit 2))) (.block 3 (.seq (.region none vf8r18 [0, 5, 6, 7, 8, 16, 44, 60, 63, 86, 160, 161] [0, 5, 6, 7, 8, 16, 44, 60, 63, 86, 160, 161]) (.region none vf8r19 [0, 5, 6, 7, 8, 16, 44, 60, 63, 86, 160, 161] [0, 5, 6, 7, 8, 16, 44, 60, 63, 86, 160, 161]))))))
def c8_6 : VCode := (.region none vf8r20 [0, 5, 6, 7, 8, 9, 16, 44, 60, 63, 86, 160, 161] [0, 5, 6, 7, 8, 9, 16, 44, 60, 63, 86, 160, 161])
def c8_7 : VCode := (.seq (.region none vf8r21 [0, 5, 6, 7, 8, 9, 16, 44, 60, 63, 86, 122, 160, 161] [0, 5, 6, 7, 8, 9, 16, 44, 60, 63, 86, 122, 160, 161]) (.cond (.t 122) (.seq (.region none vf8r22 [2, 3, 4, 5, 6, 7, 44, 60, 63, 123, 135, 160, 161, 162] [2, 3, 4, 5, 6, 7, 44, 60, 63, 123, 135, 160, 161, 162]) .ret) .skip))
def c8_8 : VCode := (.seq (.region none vf8r23 [0, 5, 6, 7, 8, 9, 16, 44, 60, 63, 86, 134, 160, 161] [0, 5, 6, 7, 8, 9, 16, 44, 60, 63, 86, 134, 160, 161]) (.cond (.t 134) (.seq (.region none vf8r24 [2, 3, 4, 5, 6, 7, 44, 60, 63, 123, 135, 160, 161, 162] [2, 3, 4, 5, 6, 7, 44, 60, 63, 123, 135, 160, 161, 162]) .ret) .skip))
def c8_9 : VCode := (.region none vf8r25 [0, 5, 6, 7, 8, 9, 10, 16, 44, 60, 63, 86, 160, 161] [0, 5, 6, 7, 8, 9, 10, 16, 44, 60, 63, 86, 160, 161])
def c8_10 : VCode := (.seq (.region none vf8r26 [0, 5, 6, 7, 8, 9, 10, 16, 44, 60, 63, 86, 139, 160, 161] [0, 5, 6, 7, 8, 9, 10, 16, 44, 60, 63, 86, 139, 160, 161]) (.cond (.t 139) (.seq (.region none vf8r27 [0, 5, 6, 7, 9, 10, 16, 44, 60, 63, 160, 161] [0, 5, 6, 7, 9, 10, 16, 44, 60, 63, 160, 161]) (.seq (.region none vf8r28 [0, 5, 6, 7, 9, 10, 11, 16, 44, 60, 63, 160, 161] [0, 5, 6, 7, 9, 10, 11, 16, 44, 60, 63, 160, 161]) (.block 4 (.loop (.seq (.seq (.region none vf8r29 [0, 5, 6, 7, 9, 10, 11, 16, 44, 60, 63, 144, 160, 161] [0, 5, 6, 7, 9, 10, 11, 16, 44, 60, 63, 144, 160, 161]) (.cond (.t 144) .skip (.exit 4))) (.seq (.block 5 (.region (some ([10], (.one 0 (.one 1 (.one 2 (.one 3 (.one 4 (.one 5 (.one 6 (.one 7 (.one 8 (.one 9 (.one 10 .fin))))))))))))) vf8r30 [0, 5, 6, 7, 9, 10, 11, 16, 44, 60, 63, 160, 161] [0, 5, 6, 7, 9, 10, 11, 16, 44, 60, 63, 160, 161])) (.region none vf8r31 [0, 5, 6, 7, 9, 10, 11, 16, 44, 60, 63, 160, 161] [0, 5, 6, 7, 9, 10, 11, 16, 44, 60, 63, 160, 161]))))))) .skip))
def c8_11 : VCode := (.region none vf8r32 [0, 5, 6, 7, 16, 44, 60, 63, 160, 161] [0, 5, 6, 7, 16, 44, 60, 63, 160, 161])
def c8_12 : VCode := (.region none vf8r33 [0, 5, 6, 7, 16, 44, 60, 63, 160, 161] [0, 5, 6, 7, 16, 44, 60, 63, 160, 161])
abbrev b9 : VCode := ((VCode.region none [{ dst := some 17, op := VOp.bin BinOp.lss Ek.no (Opd.t 16) (Opd.t 15), after := [], guard := none }] [0, 1, 2, 14, 15, 16, 17] [0, 1, 2, 14, 15, 16, 17]).seq ((VCode.cond (Opd.t 17) VCode.skip (VCode.exit 0)).seq ((VCode.block 1 ((VCode.region none [{ dst := some 18, op := VOp.mv (Opd.t 16), after := [], guard := none }, { dst := some 19, op := VOp.iaddrS 4 (Opd.t 14) (Opd.t 16), after := [], guard := none }, { dst := some 20, op := VOp.load (some 4) (Opd.t 19), after := [1], guard := none }, { dst := some 8, op := VOp.alloc false [PV.int IntKind.i64 0, PV.str [], PV.int IntKind.i64 0, PV.int IntKind.i64 0], after := [], guard := none }, { dst := some 7, op := VOp.asg (Opd.t 18), after := [0, 0, 1, 2, 3], guard := none }, { dst := none, op := VOp.store 4 (Opd.t 8) (Opd.t 20), after := [3, 2, 4, 0, 1, 2, 3, 4], guard := none }] [0, 1, 2, 7, 8, 14, 15, 16, 18] [0, 1, 2, 7, 8, 14, 15, 16, 18]).seq ((VCode.region (some ([], OT.one 0 (OT.one 1 (OT.one 2 (OT.one 3 (OT.one 4 (OT.one 5 (OT.one 6 (OT.one 7 (OT.one 8 (OT.one 9 (OT.one 10 (OT.one 11 (OT.one 12 (OT.one 13 (OT.one 14 (OT.one 15 (OT.one 16 (OT.one 17 (OT.one 18 (OT.one 19 (OT.one 20 (OT.one 21 (OT.one 22 (OT.one 23 (OT.one 24 (OT.one 25 (OT.one 26 (OT.one 27 (OT.one 28 (OT.one 29 (OT.one 30 (OT.one 31 (OT.one 32 (OT.one 33 (OT.one 34 (OT.one 35 (OT.one 36 (OT.one 37 (OT.one 38 (OT.one 39 OT.fin))))))))))))))))))))))))))))))))))))))))) [{ dst := some 21, op := VOp.mv (Opd.t 0), after := [], guard := none }, { dst := some 22, op := VOp.mv (Opd.t 7), after := [], guard := none }, { dst := some 23, op := VOp.iaddrS 4 (Opd.t 21) (Opd.t 22), after := [0, 1], guard := none }, { dst := some 24, op := VOp.faddr 0 (Opd.t 23), after := [2], guard := none }, { dst := some 25, op := VOp.load none (Opd.t 24), after := [3], guard := none }, { dst := some 26, op := VOp.faddr 0 (Opd.t 8), after := [], guard := none }, { dst := some 27, op := VOp.load none (Opd.t 26), after := [5], guard := none }, { dst := some 28, op := VOp.bin BinOp.neq Ek.no (Opd.t 25) (Opd.t 27), after := [4, 6], guard := none }, { dst := some 29, op := VOp.mv (Opd.t 28), after := [7], guard := none }, { dst := some 30, op := VOp.mv (Opd.t 0), after := [8], guard := some (8, false) }, { dst := some 31, op := VOp.mv (Opd.t 7), after := [8], guard := some (8, false) }, { dst := some 32, op := VOp.iaddrS 4 (Opd.t 30) (Opd.t 31), after := [9, 10, 8], guard := some (8, false) }, { dst := some 33, op := VOp.faddr 1 (Opd.t 32), after := [11, 8], guard := some (8, false) }, { dst := some 34, op := VOp.load none (Opd.t 33), after := [12, 8], guard := some (8, false) }, { dst := some 35, op := VOp.faddr 1 (Opd.t 8), after := [8], guard := some (8, false) }, { dst := some 36, op := VOp.load none (Opd.t 35), after := [14, 8], guard := some (8, false) }, { dst := some 37, op := VOp.bin BinOp.neq Ek.no (Opd.t 34) (Opd.t 36), after := [13, 15, 8], guard := some (8, false) }, { dst := some 38, op := VOp.pick (Opd.t 29) (Opd.c (SV.p (PV.bool true))) (Opd.t 37), after := [8, 16], guard := none }, { dst := some 39, op := VOp.mv (Opd.t 38), after := [17, 8], guard := none }, { dst := some 40, op := VOp.mv (Opd.t 0), after := [18], guard := some (18, false) }, { dst := some 41, op := VOp.mv (Opd.t 7), after := [18], guard := some (18, false) }, { dst := some 42, op := VOp.iaddrS 4 (Opd.t 40) (Opd.t 41), after := [19, 20, 18], guard := some (18, false) }, { dst := some 43, op := VOp.faddr 2 (Opd.t 42), after := [21, 18], guard := some (18, false) }, { dst := some 44, op := VOp.load none (Opd.t 43), after := [22, 18], guard := some (18, false) }, { dst := some 45, op := VOp.faddr 2 (Opd.t 8), after := [18], guard := some (18, false) }, { dst := some 46, op := VOp.load none (Opd.t 45), after := [24, 18], guard := some (18, false) }, { dst := some 47, op := VOp.bin BinOp.neq Ek.no (Opd.t 44) (Opd.t 46), after := [23, 25, 18], guard := some (18, false) }, { dst := some 48, op := VOp.pick (Opd.t 39) (Opd.c (SV.p (PV.bool true))) (Opd.t 47), after := [18, 26], guard := none }, { dst := some 49, op := VOp.mv (Opd.t 48), after := [27, 18], guard := none }, { dst := some 50, op := VOp.mv (Opd.t 0), after := [28], guard := some (28, false) }, { dst := some 51, op := VOp.mv (Opd.t 7), after := [28], guard := some (28, false) }, { dst := some 52, op := VOp.iaddrS 4 (Opd.t 50) (Opd.t 51), after := [29, 30, 28], guard := some (28, false) }, { dst := some 53, op := VOp.faddr 3 (Opd.t 52), after := [31, 28], guard := some (28, false) }, { dst := some 54, op := VOp.load none (Opd.t 53), after := [32, 28], guard := some (28, false) }, { dst := some 55, op := VOp.faddr 3 (Opd.t 8), after := [28], guard := some (28, false) }, { dst := some 56, op := VOp.load none (Opd.t 55), after := [34, 28], guard := some (28, false) }, { dst := some 57, op := VOp.mv (Opd.t 2), after := [28], guard := some (28, false) }, { dst := some 58, op := VOp.bin BinOp.add Ek.no (Opd.t 56) (Opd.t 57), after := [35, 36, 28], guard := some (28, false) }, { dst := some 59, op := VOp.bin BinOp.neq Ek.no (Opd.t 54) (Opd.t 58), after := [33, 37, 28], guard := some (28, false) }, { dst := some 60, op := VOp.pick (Opd.t 49) (Opd.c (SV.p (PV.bool true))) (Opd.t 59), after := [28, 38], guard := none }] [0, 1, 2, 14, 15, 16, 60] [0, 1, 2, 14, 15, 16, 60]).seq (VCode.cond (Opd.t 60) ((VCode.region none [{ dst := some 6, op := VOp.asg (Opd.c (SV.p (PV.bool false))), after := [], guard := none }] [6] [6]).seq VCode.ret) VCode.skip)))).seq (VCode.region none [{ dst := some 61, op := VOp.bin BinOp.add Ek.no (Opd.t 16) (Opd.c (SV.p (PV.int IntKind.i64 1))), after := [], guard := none }, { dst := some 16, op := VOp.mv (Opd.t 61), after := [0], guard := none }] [0, 1, 2, 14, 15, 16] [0, 1, 2, 14, 15, 16]))))

def q8 (Z : List UInt8 → Bool) (P : List UInt8 → List (List PV)) (At E : List UInt8 → Int) : List SV → Option SV
  | [.p (.str s)] => some (.tup [match Z s with | true => .p .nils | false => .own 4 (P s), .p (.int .i64 (At s)), .p (.int .i64 (E s))])
  | _ => none
def q9 (Q : List (List PV) → List (List PV) → Bool) : List SV → Option SV
  | [.lent 4 xs, .lent 4 ys, .p (.int .i64 0)] => match Q xs ys with | true => some (.p (.bool true)) | false => none
  | [.p .nils, .p .nils, .p (.int .i64 0)] => some (.p (.bool true))
  | _ => none
def ps3s (Z : List UInt8 → Bool) (P : List UInt8 → List (List PV)) (At E : List UInt8 → Int) (Q : List (List PV) → List (List PV) → Bool) : List (Nat × Prim) := [(10, .q qTrue), (7, .q (q7 Z P At E)), (8, .q (q8 Z P At E)), (9, .q (q9 Q))]
theorem it16_0 (F : Fns) (fns) (c : Int) (s : List UInt8) (n : Int)  (h0 : F Fn.cmp BinOp.lss n (Int.ofNat (F Fn.slen s)) = false) : @S.evS (symA F) (T' fns (look m0)) n5 n2 ⟨0, 0⟩ b16 { env := [(0, SV.p (PV.int IntKind.u8 c)), (1, zs s), (5, zi n)], fr := [], hp := [], out := [] } = some (Ex.exit 0, { env := [(0, SV.p (PV.int IntKind.u8 c)), (1, zs s), (5, zi n), (9, zb false)], fr := [], hp := [], out := [] }) := by
  cbv
  rw [h0]
  cbv
theorem it16_1 (F : Fns) (fns) (c : Int) (s : List UInt8) (n : Int) (x0 : UInt8) (h0 : F Fn.cmp BinOp.lss n (Int.ofNat (F Fn.slen s)) = true) (h1 : F Fn.cmp BinOp.leq 0 n = true) (h2 : F Fn.sget s (F Fn.toN n) = some x0) (h3 : F Fn.cmp BinOp.eql (Int.ofNat x0.1.1.1) c = true) : @S.evS (symA F) (T' fns (look m0)) n5 n2 ⟨0, 0⟩ b16 { env := [(0, SV.p (PV.int IntKind.u8 c)), (1, zs s), (5, zi n)], fr := [], hp := [], out := [] } = some (Ex.ret, { env := [(4, zb true)], fr := [], hp := [], out := [] }) := by
  cbv
  rw [h0]
  cbv
  rw [h1]
  cbv
  rw [h2]
  cbv
  rw [h3]
  cbv
theorem it16_2 (F : Fns) (fns) (c : Int) (s : List UInt8) (n : Int) (x0 : UInt8) (h0 : F Fn.cmp BinOp.lss n (Int.ofNat (F Fn.slen s)) = true) (h1 : F Fn.cmp BinOp.leq 0 n = true) (h2 : F Fn.sget s (F Fn.toN n) = some x0) (h3 : F Fn.cmp BinOp.eql (Int.ofNat x0.1.1.1) c = false) : @S.evS (symA F) (T' fns (look m0)) n5 n2 ⟨0, 0⟩ b16 { env := [(0, SV.p (PV.int IntKind.u8 c)), (1, zs s), (5, zi n)], fr := [], hp := [], out := [] } = some (Ex.normal, { env := [(0, SV.p (PV.int IntKind.u8 c)), (1, zs s), (5, SV.p (PV.int IntKind.i64 (F Fn.ar BinOp.add IntKind.i64 n 1)))], fr := [], hp := [], out := [] }) := by
  cbv
  rw [h0]
  cbv
  rw [h1]
  cbv
  rw [h2]
  cbv
  rw [h3]
  cbv
theorem sem16f_0 (F : Fns) (fns) (Lp : LPT) (c : Int) (s : List UInt8) (n : Int)  (h0 : Lp b16 { env := [(0, SV.p (PV.int IntKind.u8 c)), (1, zs s), (5, zi 0)], fr := [], hp := [], out := [] } = some (Ex.exit 0, { env := [(0, SV.p (PV.int IntKind.u8 c)), (1, zs s), (5, zi n), (9, zb false)], fr := [], hp := [], out := [] })) : @S.fnS (symA F) (T' fns (look m0)) n5 Lp ⟨0, 0⟩ vf16 [.p (.int .u8 c), .p (.str s)] [] [] = some ((zb false, [], []), []) := by
  cbv
  rw [h0]
  cbv
theorem sem16t_0 (F : Fns) (fns) (Lp : LPT) (c : Int) (s : List UInt8) (n : Int)  (h0 : Lp b16 { env := [(0, SV.p (PV.int IntKind.u8 c)), (1, zs s), (5, zi 0)], fr := [], hp := [], out := [] } = some (Ex.ret, { env := [(4, zb true)], fr := [], hp := [], out := [] })) : @S.fnS (symA F) (T' fns (look m0)) n5 Lp ⟨0, 0⟩ vf16 [.p (.int .u8 c), .p (.str s)] [] [] = some ((zb true, [], []), []) := by
  cbv
  rw [h0]
  cbv
theorem it15t_0 (F : Fns) (fns) (rows r0 : List (List PV)) (o : Bool) (i n : Int)   (h0 : F Fn.cmp BinOp.lss i n = false) : @S.evS (symA F) (T' fns (look m0)) n5 n2 ⟨0, 0⟩ b15 { env := [(3, SV.own 1 rows), (4, zb true), (8, uu), (9, SV.al { root := Root.sl 3, off := 0, row := none } 1 0 (F Fn.rlen r0)), (10, zi n), (11, zi i)], fr := [], hp := [], out := [] } = some (Ex.exit 0, { env := [(3, SV.own 1 rows), (4, zb true), (8, uu), (9, SV.al { root := Root.sl 3, off := 0, row := none } 1 0 (F Fn.rlen r0)), (10, zi n), (11, zi i), (12, zb false)], fr := [], hp := [], out := [] }) := by
  cbv
  rw [h0]
  cbv
theorem it15t_1 (F : Fns) (fns) (rows r0 : List (List PV)) (o : Bool) (i n : Int)  (y0_0 : Int) (h0 : F Fn.cmp BinOp.lss i n = true) (h1 : F Fn.cmp BinOp.leq 0 i = true) (h2 : F Fn.le (F Fn.rlen r0) (F Fn.toN i) = false) (h3 : F Fn.rget rows (F Fn.add 0 (F Fn.toN i)) = some [PV.int IntKind.u8 y0_0]) (h4 : F Fn.cmp BinOp.eql y0_0 35 = true) (h5 : F Fn.cmp BinOp.eql y0_0 10 = true) : @S.evS (symA F) (T' fns (look m0)) n5 n2 ⟨0, 0⟩ b15 { env := [(3, SV.own 1 rows), (4, zb true), (8, uu), (9, SV.al { root := Root.sl 3, off := 0, row := none } 1 0 (F Fn.rlen r0)), (10, zi n), (11, zi i)], fr := [], hp := [], out := [] } = some (Ex.normal, { env := [(3, SV.own 1 rows), (4, zb false), (8, uu), (9, SV.al { root := Root.sl 3, off := 0, row := none } 1 0 (F Fn.rlen r0)), (10, zi n), (11, SV.p (PV.int IntKind.i64 (F Fn.ar BinOp.add IntKind.i64 i 1)))], fr := [], hp := [], out := [] }) := by
  cbv
  rw [h0]
  cbv
  rw [h1]
  cbv
  rw [h2]
  cbv
  rw [h3]
  cbv
  rw [h4]
  cbv
  rw [h5]
  cbv
theorem it15t_2 (F : Fns) (fns) (rows r0 : List (List PV)) (o : Bool) (i n : Int)  (y0_0 : Int) (h0 : F Fn.cmp BinOp.lss i n = true) (h1 : F Fn.cmp BinOp.leq 0 i = true) (h2 : F Fn.le (F Fn.rlen r0) (F Fn.toN i) = false) (h3 : F Fn.rget rows (F Fn.add 0 (F Fn.toN i)) = some [PV.int IntKind.u8 y0_0]) (h4 : F Fn.cmp BinOp.eql y0_0 35 = false) (h5 : F Fn.cmp BinOp.eql y0_0 10 = true) : @S.evS (symA F) (T' fns (look m0)) n5 n2 ⟨0, 0⟩ b15 { env := [(3, SV.own 1 rows), (4, zb true), (8, uu), (9, SV.al { root := Root.sl 3, off := 0, row := none } 1 0 (F Fn.rlen r0)), (10, zi n), (11, zi i)], fr := [], hp := [], out := [] } = some (Ex.normal, { env := [(3, SV.own 1 rows), (4, zb false), (8, uu), (9, SV.al { root := Root.sl 3, off := 0, row := none } 1 0 (F Fn.rlen r0)), (10, zi n), (11, SV.p (PV.int IntKind.i64 (F Fn.ar BinOp.add IntKind.i64 i 1)))], fr := [], hp := [], out := [] }) := by
  cbv
  rw [h0]
  cbv
  rw [h1]
  cbv
  rw [h2]
  cbv
  rw [h3]
  cbv
  rw [h4]
  cbv
  rw [h5]
  cbv
theorem it15t_3 (F : Fns) (fns) (rows r0 : List (List PV)) (o : Bool) (i n : Int)  (y0_0 : Int) (h0 : F Fn.cmp BinOp.lss i n = true) (h1 : F Fn.cmp BinOp.leq 0 i = true) (h2 : F Fn.le (F Fn.rlen r0) (F Fn.toN i) = false) (h3 : F Fn.rget rows (F Fn.add 0 (F Fn.toN i)) = some [PV.int IntKind.u8 y0_0]) (h4 : F Fn.cmp BinOp.eql y0_0 35 = true) (h5 : F Fn.cmp BinOp.eql y0_0 10 = false) (h6 : F Fn.cmp BinOp.leq 0 i = true) (h7 : F Fn.le (F Fn.rlen rows) (F Fn.toN i) = false) (h8 : F Fn.rget rows (F Fn.add 0 (F Fn.toN i)) = some [PV.int IntKind.u8 y0_0]) (h9 : F Fn.rget rows (F Fn.add 0 (F Fn.toN i)) = some [PV.int IntKind.u8 y0_0]) : @S.evS (symA F) (T' fns (look m0)) n5 n2 ⟨0, 0⟩ b15 { env := [(3, SV.own 1 rows), (4, zb true), (8, uu), (9, SV.al { root := Root.sl 3, off := 0, row := none } 1 0 (F Fn.rlen r0)), (10, zi n), (11, zi i)], fr := [], hp := [], out := [] } = some (Ex.normal, { env := [(3, SV.own 1 (F Fn.rset rows (F Fn.add 0 (F Fn.toN i)) [PV.int IntKind.u8 32])), (4, zb true), (8, uu), (9, SV.al { root := Root.sl 3, off := 0, row := none } 1 0 (F Fn.rlen r0)), (10, zi n), (11, SV.p (PV.int IntKind.i64 (F Fn.ar BinOp.add IntKind.i64 i 1)))], fr := [], hp := [], out := [] }) := by
  cbv
  rw [h0]
  cbv
  rw [h1]
  cbv
  rw [h2]
  cbv
  rw [h3]
  cbv
  rw [h4]
  cbv
  rw [h5]
  cbv
  rw [h6]
  cbv
  rw [h7]
  cbv
  rw [h8]
  cbv
  rw [h9]
  cbv
theorem it15t_4 (F : Fns) (fns) (rows r0 : List (List PV)) (o : Bool) (i n : Int)  (y0_0 : Int) (h0 : F Fn.cmp BinOp.lss i n = true) (h1 : F Fn.cmp BinOp.leq 0 i = true) (h2 : F Fn.le (F Fn.rlen r0) (F Fn.toN i) = false) (h3 : F Fn.rget rows (F Fn.add 0 (F Fn.toN i)) = some [PV.int IntKind.u8 y0_0]) (h4 : F Fn.cmp BinOp.eql y0_0 35 = false) (h5 : F Fn.cmp BinOp.eql y0_0 10 = false) (h6 : F Fn.cmp BinOp.leq 0 i = true) (h7 : F Fn.le (F Fn.rlen rows) (F Fn.toN i) = false) (h8 : F Fn.rget rows (F Fn.add 0 (F Fn.toN i)) = some [PV.int IntKind.u8 y0_0]) (h9 : F Fn.rget rows (F Fn.add 0 (F Fn.toN i)) = some [PV.int IntKind.u8 y0_0]) : @S.evS (symA F) (T' fns (look m0)) n5 n2 ⟨0, 0⟩ b15 { env := [(3, SV.own 1 rows), (4, zb true), (8, uu), (9, SV.al { root := Root.sl 3, off := 0, row := none } 1 0 (F Fn.rlen r0)), (10, zi n), (11, zi i)], fr := [], hp := [], out := [] } = some (Ex.normal, { env := [(3, SV.own 1 (F Fn.rset rows (F Fn.add 0 (F Fn.toN i)) [PV.int IntKind.u8 32])), (4, zb true), (8, uu), (9, SV.al { root := Root.sl 3, off := 0, row := none } 1 0 (F Fn.rlen r0)), (10, zi n), (11, SV.p (PV.int IntKind.i64 (F Fn.ar BinOp.add IntKind.i64 i 1)))], fr := [], hp := [], out := [] }) := by
  cbv
  rw [h0]
  cbv
  rw [h1]
  cbv
  rw [h2]
  cbv
  rw [h3]
  cbv
  rw [h4]
  cbv
  rw [h5]
  cbv
  rw [h6]
  cbv
  rw [h7]
  cbv
  rw [h8]
  cbv
  rw [h9]
  cbv
theorem it15f_0 (F : Fns) (fns) (rows r0 : List (List PV)) (o : Bool) (i n : Int)   (h0 : F Fn.cmp BinOp.lss i n = false) : @S.evS (symA F) (T' fns (look m0)) n5 n2 ⟨0, 0⟩ b15 { env := [(3, SV.own 1 rows), (4, zb false), (8, uu), (9, SV.al { root := Root.sl 3, off := 0, row := none } 1 0 (F Fn.rlen r0)), (10, zi n), (11, zi i)], fr := [], hp := [], out := [] } = some (Ex.exit 0, { env := [(3, SV.own 1 rows), (4, zb false), (8, uu), (9, SV.al { root := Root.sl 3, off := 0, row := none } 1 0 (F Fn.rlen r0)), (10, zi n), (11, zi i), (12, zb false)], fr := [], hp := [], out := [] }) := by
  cbv
  rw [h0]
  cbv
theorem it15f_1 (F : Fns) (fns) (rows r0 : List (List PV)) (o : Bool) (i n : Int)  (y0_0 : Int) (h0 : F Fn.cmp BinOp.lss i n = true) (h1 : F Fn.cmp BinOp.leq 0 i = true) (h2 : F Fn.le (F Fn.rlen r0) (F Fn.toN i) = false) (h3 : F Fn.rget rows (F Fn.add 0 (F Fn.toN i)) = some [PV.int IntKind.u8 y0_0]) (h4 : F Fn.cmp BinOp.eql y0_0 35 = true) (h5 : F Fn.cmp BinOp.eql y0_0 10 = true) : @S.evS (symA F) (T' fns (look m0)) n5 n2 ⟨0, 0⟩ b15 { env := [(3, SV.own 1 rows), (4, zb false), (8, uu), (9, SV.al { root := Root.sl 3, off := 0, row := none } 1 0 (F Fn.rlen r0)), (10, zi n), (11, zi i)], fr := [], hp := [], out := [] } = some (Ex.normal, { env := [(3, SV.own 1 rows), (4, zb false), (8, uu), (9, SV.al { root := Root.sl 3, off := 0, row := none } 1 0 (F Fn.rlen r0)), (10, zi n), (11, SV.p (PV.int IntKind.i64 (F Fn.ar BinOp.add IntKind.i64 i 1)))], fr := [], hp := [], out := [] }) := by
  cbv
  rw [h0]
  cbv
  rw [h1]
  cbv
  rw [h2]
  cbv
  rw [h3]
  cbv
  rw [h4]
  cbv
  rw [h5]
  cbv
theorem it15f_2 (F : Fns) (fns) (rows r0 : List (List PV)) (o : Bool) (i n : Int)  (y0_0 : Int) (h0 : F Fn.cmp BinOp.lss i n = true) (h1 : F Fn.cmp BinOp.leq 0 i = true) (h2 : F Fn.le (F Fn.rlen r0) (F Fn.toN i) = false) (h3 : F Fn.rget rows (F Fn.add 0 (F Fn.toN i)) = some [PV.int IntKind.u8 y0_0]) (h4 : F Fn.cmp BinOp.eql y0_0 35 = false) (h5 : F Fn.cmp BinOp.eql y0_0 10 = true) : @S.evS (symA F) (T' fns (look m0)) n5 n2 ⟨0, 0⟩ b15 { env := [(3, SV.own 1 rows), (4, zb false), (8, uu), (9, SV.al { root := Root.sl 3, off := 0, row := none } 1 0 (F Fn.rlen r0)), (10, zi n), (11, zi i)], fr := [], hp := [], out := [] } = some (Ex.normal, { env := [(3, SV.own 1 rows), (4, zb false), (8, uu), (9, SV.al { root := Root.sl 3, off := 0, row := none } 1 0 (F Fn.rlen r0)), (10, zi n), (11, SV.p (PV.int IntKind.i64 (F Fn.ar BinOp.add IntKind.i64 i 1)))], fr := [], hp := [], out := [] }) := by
  cbv
  rw [h0]
  cbv
  rw [h1]
  cbv
  rw [h2]
  cbv
  rw [h3]
  cbv
  rw [h4]
  cbv
  rw [h5]
  cbv
theorem it15f_3 (F : Fns) (fns) (rows r0 : List (List PV)) (o : Bool) (i n : Int)  (y0_0 : Int) (h0 : F Fn.cmp BinOp.lss i n = true) (h1 : F Fn.cmp BinOp.leq 0 i = true) (h2 : F Fn.le (F Fn.rlen r0) (F Fn.toN i) = false) (h3 : F Fn.rget rows (F Fn.add 0 (F Fn.toN i)) = some [PV.int IntKind.u8 y0_0]) (h4 : F Fn.cmp BinOp.eql y0_0 35 = false) (h5 : F Fn.cmp BinOp.eql y0_0 10 = false) : @S.evS (symA F) (T' fns (look m0)) n5 n2 ⟨0, 0⟩ b15 { env := [(3, SV.own 1 rows), (4, zb false), (8, uu), (9, SV.al { root := Root.sl 3, off := 0, row := none } 1 0 (F Fn.rlen r0)), (10, zi n), (11, zi i)], fr := [], hp := [], out := [] } = some (Ex.normal, { env := [(3, SV.own 1 rows), (4, zb false), (8, uu), (9, SV.al { root := Root.sl 3, off := 0, row := none } 1 0 (F Fn.rlen r0)), (10, zi n), (11, SV.p (PV.int IntKind.i64 (F Fn.ar BinOp.add IntKind.i64 i 1)))], fr := [], hp := [], out := [] }) := by
  cbv
  rw [h0]
  cbv
  rw [h1]
  cbv
  rw [h2]
  cbv
  rw [h3]
  cbv
  rw [h4]
  cbv
  rw [h5]
  cbv
theorem it15f_4 (F : Fns) (fns) (rows r0 : List (List PV)) (o : Bool) (i n : Int)  (y0_0 : Int) (h0 : F Fn.cmp BinOp.lss i n = true) (h1 : F Fn.cmp BinOp.leq 0 i = true) (h2 : F Fn.le (F Fn.rlen r0) (F Fn.toN i) = false) (h3 : F Fn.rget rows (F Fn.add 0 (F Fn.toN i)) = some [PV.int IntKind.u8 y0_0]) (h4 : F Fn.cmp BinOp.eql y0_0 35 = true) (h5 : F Fn.cmp BinOp.eql y0_0 10 = false) (h6 : F Fn.cmp BinOp.leq 0 i = true) (h7 : F Fn.le (F Fn.rlen rows) (F Fn.toN i) = false) (h8 : F Fn.rget rows (F Fn.add 0 (F Fn.toN i)) = some [PV.int IntKind.u8 y0_0]) (h9 : F Fn.rget rows (F Fn.add 0 (F Fn.toN i)) = some [PV.int IntKind.u8 y0_0]) : @S.evS (symA F) (T' fns (look m0)) n5 n2 ⟨0, 0⟩ b15 { env := [(3, SV.own 1 rows), (4, zb false), (8, uu), (9, SV.al { root := Root.sl 3, off := 0, row := none } 1 0 (F Fn.rlen r0)), (10, zi n), (11, zi i)], fr := [], hp := [], out := [] } = some (Ex.normal, { env := [(3, SV.own 1 (F Fn.rset rows (F Fn.add 0 (F Fn.toN i)) [PV.int IntKind.u8 32])), (4, zb true), (8, uu), (9, SV.al { root := Root.sl 3, off := 0, row := none } 1 0 (F Fn.rlen r0)), (10, zi n), (11, SV.p (PV.int IntKind.i64 (F Fn.ar BinOp.add IntKind.i64 i 1)))], fr := [], hp := [], out := [] }) := by
  cbv
  rw [h0]
  cbv
  rw [h1]
  cbv
  rw [h2]
  cbv
  rw [h3]
  cbv
  rw [h4]
  cbv
  rw [h5]
  cbv
  rw [h6]
  cbv
  rw [h7]
  cbv
  rw [h8]
  cbv
  rw [h9]
  cbv
theorem sem15_0 (F : Fns) (fns) (Lp : LPT) (s t : List UInt8) (rows r0 : List (List PV)) (o : Bool) (i n : Int) (x0 : List UInt8) (h0 : F Fn.le (F Fn.slen s) 140737488355328 = true) (h1 : Lp b15 { env := [(3, SV.own 1 (F Fn.brows s)), (4, zb false), (8, uu), (9, SV.al { root := Root.sl 3, off := 0, row := none } 1 0 (F Fn.rlen (F Fn.brows s))), (10, SV.p (PV.int IntKind.i64 (Int.ofNat (F Fn.rlen (F Fn.brows s))))), (11, zi 0)], fr := [], hp := [], out := [] } = some (Ex.exit 0, { env := [(3, SV.own 1 rows), (4, zb o), (8, uu), (9, SV.al { root := Root.sl 3, off := 0, row := none } 1 0 (F Fn.rlen r0)), (10, zi n), (11, zi i), (12, zb false)], fr := [], hp := [], out := [] })) (h2 : F Fn.le (F Fn.add 0 (F Fn.rlen rows)) (F Fn.rlen rows) = true) (h3 : F Fn.b2s (F Fn.rpart rows 0 (F Fn.rlen rows)) = some x0) : @S.fnS (symA F) (T' fns (look m0)) n5 Lp ⟨0, 0⟩ vf15 [.p (.str s)] [] [] = some ((zs x0, [], []), []) := by
  cbv
  rw [h0]
  cbv
  rw [h1]
  cbv
  rw [h2]
  cbv
  rw [h3]
  cbv
theorem h8A_0 (F : Fns) (fns) (G : GT) (W : WT) (B : BT)  (Lp : LPT) (t : List UInt8) (i k0 k1 k2 : Int) (rows : List (List PV))   (h0 : F Fn.cmp BinOp.lss i (Int.ofNat (F Fn.slen t)) = true) : EV F fns G W B Lp ⟨0, 0⟩ c8h { env := [(0, zs t), (5, zn), (6, zi i), (7, uu), (16, zs t), (44, uu), (60, uu), (63, uu), (160, uu), (161, uu)], fr := [(10, [])], hp := [], out := [] } = some (Ex.normal, { env := [(0, zs t), (5, zn), (6, zi i), (7, uu), (16, zs t), (20, zb true), (44, uu), (60, uu), (63, uu), (160, uu), (161, uu)], fr := [(10, [])], hp := [], out := [] }) := by
  cbv
  rw [h0]
  cbv
theorem h8A_1 (F : Fns) (fns) (G : GT) (W : WT) (B : BT)  (Lp : LPT) (t : List UInt8) (i k0 k1 k2 : Int) (rows : List (List PV))   (h0 : F Fn.cmp BinOp.lss i (Int.ofNat (F Fn.slen t)) = false) : EV F fns G W B Lp ⟨0, 0⟩ c8h { env := [(0, zs t), (5, zn), (6, zi i), (7, uu), (16, zs t), (44, uu), (60, uu), (63, uu), (160, uu), (161, uu)], fr := [(10, [])], hp := [], out := [] } = some (Ex.exit 0, { env := [(0, zs t), (5, zn), (6, zi i), (7, uu), (16, zs t), (20, zb false), (44, uu), (60, uu), (63, uu), (160, uu), (161, uu)], fr := [(10, [])], hp := [], out := [] }) := by
  cbv
  rw [h0]
  cbv
theorem w0A_0 (F : Fns) (fns) (G : GT) (W : WT) (B : BT)  (Lp : LPT) (t : List UInt8) (i k0 k1 k2 : Int) (rows : List (List PV))  (x0 : UInt8) (h0 : F Fn.cmp BinOp.leq 0 i = true) (h1 : F Fn.sget t (F Fn.toN i) = some x0) (h2 : G [32, 9, 10, 13] = true) (h3 : W (Int.ofNat ↑x0.toBitVec.toFin) [32, 9, 10, 13] = true) : EV F fns G W B Lp ⟨0, 0⟩ c8_0 { env := [(0, zs t), (5, zn), (6, zi i), (7, uu), (16, zs t), (20, zb true), (44, uu), (60, uu), (63, uu), (160, uu), (161, uu)], fr := [(10, [])], hp := [], out := [] } = some (Ex.exit 1, { env := [(0, zs t), (5, zn), (6, SV.p (PV.int IntKind.i64 (F Fn.ar BinOp.add IntKind.i64 i 1))), (7, uu), (16, zs t), (44, uu), (60, uu), (63, uu), (160, uu), (161, uu)], fr := [(10, [])], hp := [], out := [] }) := by
  cbv
  rw [h0]
  cbv
  rw [h1]
  cbv
  rw [h2]
  cbv
  rw [h3]
  cbv
theorem w0A_1 (F : Fns) (fns) (G : GT) (W : WT) (B : BT)  (Lp : LPT) (t : List UInt8) (i k0 k1 k2 : Int) (rows : List (List PV))  (x0 : UInt8) (h0 : F Fn.cmp BinOp.leq 0 i = true) (h1 : F Fn.sget t (F Fn.toN i) = some x0) (h2 : G [32, 9, 10, 13] = true) (h3 : W (Int.ofNat ↑x0.toBitVec.toFin) [32, 9, 10, 13] = false) : EV F fns G W B Lp ⟨0, 0⟩ c8_0 { env := [(0, zs t), (5, zn), (6, zi i), (7, uu), (16, zs t), (20, zb true), (44, uu), (60, uu), (63, uu), (160, uu), (161, uu)], fr := [(10, [])], hp := [], out := [] } = some (Ex.normal, { env := [(0, zs t), (5, zn), (6, zi i), (7, uu), (16, zs t), (24, zb false), (44, uu), (60, uu), (63, uu), (160, uu), (161, uu)], fr := [(10, [])], hp := [], out := [] }) := by
  cbv
  rw [h0]
  cbv
  rw [h1]
  cbv
  rw [h2]
  cbv
  rw [h3]
  cbv
theorem w1A_0 (F : Fns) (fns) (G : GT) (W : WT) (B : BT)  (Lp : LPT) (t : List UInt8) (i k0 k1 k2 : Int) (rows : List (List PV))   (h0 : F Fn.cmp BinOp.lss (F Fn.ar BinOp.add IntKind.i64 i 1) (Int.ofNat (F Fn.slen t)) = false) : EV F fns G W B Lp ⟨0, 0⟩ c8_1 { env := [(0, zs t), (5, zn), (6, zi i), (7, uu), (16, zs t), (24, zb false), (44, uu), (60, uu), (63, uu), (160, uu), (161, uu)], fr := [(10, [])], hp := [], out := [] } = some (Ex.normal, { env := [(0, zs t), (5, zn), (6, zi i), (7, uu), (16, zs t), (39, zb false), (44, uu), (60, uu), (63, uu), (160, uu), (161, uu)], fr := [(10, [])], hp := [], out := [] }) := by
  cbv
  rw [h0]
  cbv
theorem w1A_1 (F : Fns) (fns) (G : GT) (W : WT) (B : BT)  (Lp : LPT) (t : List UInt8) (i k0 k1 k2 : Int) (rows : List (List PV))   (h0 : F Fn.cmp BinOp.lss (F Fn.ar BinOp.add IntKind.i64 i 1) (Int.ofNat (F Fn.slen t)) = true) (h1 : F Fn.cmp BinOp.leq 0 (F Fn.ar BinOp.add IntKind.i64 i 2) = true) (h2 : F Fn.cmp BinOp.leq 0 i = true) (h3 : F Fn.le (F Fn.toN i) (F Fn.toN (F Fn.ar BinOp.add IntKind.i64 i 2)) = true) (h4 : F Fn.le (F Fn.toN (F Fn.ar BinOp.add IntKind.i64 i 2)) (F Fn.slen t) = true) (h5 : F Fn.scmp BinOp.eql (F Fn.scut t (F Fn.toN i) (F Fn.toN (F Fn.ar BinOp.add IntKind.i64 i 2))) [45, 62] = false) : EV F fns G W B Lp ⟨0, 0⟩ c8_1 { env := [(0, zs t), (5, zn), (6, zi i), (7, uu), (16, zs t), (24, zb false), (44, uu), (60, uu), (63, uu), (160, uu), (161, uu)], fr := [(10, [])], hp := [], out := [] } = some (Ex.normal, { env := [(0, zs t), (5, zn), (6, zi i), (7, uu), (16, zs t), (39, zb false), (44, uu), (60, uu), (63, uu), (160, uu), (161, uu)], fr := [(10, [])], hp := [], out := [] }) := by
  cbv
  rw [h0]
  cbv
  rw [h1]
  cbv
  rw [h2]
  cbv
  rw [h3]
  cbv
  rw [h4]
  cbv
  rw [h5]
  cbv
theorem w1A_2 (F : Fns) (fns) (G : GT) (W : WT) (B : BT)  (Lp : LPT) (t : List UInt8) (i k0 k1 k2 : Int) (rows : List (List PV))   (h0 : F Fn.cmp BinOp.lss (F Fn.ar BinOp.add IntKind.i64 i 1) (Int.ofNat (F Fn.slen t)) = true) (h1 : F Fn.cmp BinOp.leq 0 (F Fn.ar BinOp.add IntKind.i64 i 2) = true) (h2 : F Fn.cmp BinOp.leq 0 i = true) (h3 : F Fn.le (F Fn.toN i) (F Fn.toN (F Fn.ar BinOp.add IntKind.i64 i 2)) = true) (h4 : F Fn.le (F Fn.toN (F Fn.ar BinOp.add IntKind.i64 i 2)) (F Fn.slen t) = true) (h5 : F Fn.scmp BinOp.eql (F Fn.scut t (F Fn.toN i) (F Fn.toN (F Fn.ar BinOp.add IntKind.i64 i 2))) [45, 62] = true) (h6 : F Fn.le (F Fn.add 0 (F Fn.rlen [[PV.int IntKind.i64 3, PV.str [45, 62], PV.int IntKind.i64 0, PV.int IntKind.i64 i]])) (F Fn.rlen [[PV.int IntKind.i64 3, PV.str [45, 62], PV.int IntKind.i64 0, PV.int IntKind.i64 i]]) = true) (h7 : F Fn.lens 4 (F Fn.rpart [[PV.int IntKind.i64 3, PV.str [45, 62], PV.int IntKind.i64 0, PV.int IntKind.i64 i]] 0 (F Fn.rlen [[PV.int IntKind.i64 3, PV.str [45, 62], PV.int IntKind.i64 0, PV.int IntKind.i64 i]])) = true) (h8 : F Fn.emp (F Fn.rpart [[PV.int IntKind.i64 3, PV.str [45, 62], PV.int IntKind.i64 0, PV.int IntKind.i64 i]] 0 (F Fn.rlen [[PV.int IntKind.i64 3, PV.str [45, 62], PV.int IntKind.i64 0, PV.int IntKind.i64 i]])) = false) (h9 : F Fn.afit 0 (F Fn.rpart [[PV.int IntKind.i64 3, PV.str [45, 62], PV.int IntKind.i64 0, PV.int IntKind.i64 i]] 0 (F Fn.rlen [[PV.int IntKind.i64 3, PV.str [45, 62], PV.int IntKind.i64 0, PV.int IntKind.i64 i]])) 40 = true) : EV F fns G W B Lp ⟨0, 0⟩ c8_1 { env := [(0, zs t), (5, zn), (6, zi i), (7, uu), (16, zs t), (24, zb false), (44, uu), (60, uu), (63, uu), (160, uu), (161, uu)], fr := [(10, [])], hp := [], out := [] } = some (Ex.exit 1, { env := [(0, zs t), (5, SV.own 4 (F Fn.rpart [[PV.int IntKind.i64 3, PV.str [45, 62], PV.int IntKind.i64 0, PV.int IntKind.i64 i]] 0 (F Fn.rlen [[PV.int IntKind.i64 3, PV.str [45, 62], PV.int IntKind.i64 0, PV.int IntKind.i64 i]]))), (6, SV.p (PV.int IntKind.i64 (F Fn.ar BinOp.add IntKind.i64 i 2))), (7, uu), (16, zs t), (44, uu), (60, uu), (63, uu), (160, uu), (161, uu)], fr := [(10, [])], hp := [], out := [] }) := by
  cbv
  rw [h0]
  cbv
  rw [h1]
  cbv
  rw [h2]
  cbv
  rw [h3]
  cbv
  rw [h4]
  cbv
  rw [h5]
  cbv
  rw [h6]
  cbv
  rw [h7]
  cbv
  rw [if_neg (by exact fun h => Bool.noConfusion (h8.symm.trans h))]
  cbv
  rw [h9]
  cbv
theorem w2A_0 (F : Fns) (fns) (G : GT) (W : WT) (B : BT)  (Lp : LPT) (t : List UInt8) (i k0 k1 k2 : Int) (rows : List (List PV))  (x0 : UInt8) (h0 : F Fn.cmp BinOp.leq 0 i = true) (h1 : F Fn.sget t (F Fn.toN i) = some x0) (h2 : G [61, 44, 59, 38, 33, 58, 45] = true) (h3 : W (Int.ofNat ↑x0.toBitVec.toFin) [61, 44, 59, 38, 33, 58, 45] = false) : EV F fns G W B Lp ⟨0, 0⟩ c8_2 { env := [(0, zs t), (5, zn), (6, zi i), (7, uu), (16, zs t), (39, zb false), (44, uu), (60, uu), (63, uu), (160, uu), (161, uu)], fr := [(10, [])], hp := [], out := [] } = some (Ex.normal, { env := [(0, zs t), (5, zn), (6, zi i), (7, uu), (16, zs t), (44, uu), (50, zb false), (60, uu), (63, uu), (160, uu), (161, uu)], fr := [(10, [])], hp := [], out := [] }) := by
  cbv
  rw [h0]
  cbv
  rw [h1]
  cbv
  rw [h2]
  cbv
  rw [h3]
  cbv
theorem w2A_1 (F : Fns) (fns) (G : GT) (W : WT) (B : BT)  (Lp : LPT) (t : List UInt8) (i k0 k1 k2 : Int) (rows : List (List PV))  (x0 : UInt8) (h0 : F Fn.cmp BinOp.leq 0 i = true) (h1 : F Fn.sget t (F Fn.toN i) = some x0) (h2 : G [61, 44, 59, 38, 33, 58, 45] = true) (h3 : W (Int.ofNat ↑x0.toBitVec.toFin) [61, 44, 59, 38, 33, 58, 45] = true) (h4 : F Fn.cmp BinOp.leq 0 (F Fn.ar BinOp.add IntKind.i64 i 1) = true) (h5 : F Fn.cmp BinOp.leq 0 i = true) (h6 : F Fn.le (F Fn.toN i) (F Fn.toN (F Fn.ar BinOp.add IntKind.i64 i 1)) = true) (h7 : F Fn.le (F Fn.toN (F Fn.ar BinOp.add IntKind.i64 i 1)) (F Fn.slen t) = true) (h8 : F Fn.le (F Fn.add 0 (F Fn.rlen [[PV.int IntKind.i64 3, PV.str (F Fn.scut t (F Fn.toN i) (F Fn.toN (F Fn.ar BinOp.add IntKind.i64 i 1))), PV.int IntKind.i64 0, PV.int IntKind.i64 i]])) (F Fn.rlen [[PV.int IntKind.i64 3, PV.str (F Fn.scut t (F Fn.toN i) (F Fn.toN (F Fn.ar BinOp.add IntKind.i64 i 1))), PV.int IntKind.i64 0, PV.int IntKind.i64 i]]) = true) (h9 : F Fn.lens 4 (F Fn.rpart [[PV.int IntKind.i64 3, PV.str (F Fn.scut t (F Fn.toN i) (F Fn.toN (F Fn.ar BinOp.add IntKind.i64 i 1))), PV.int IntKind.i64 0, PV.int IntKind.i64 i]] 0 (F Fn.rlen [[PV.int IntKind.i64 3, PV.str (F Fn.scut t (F Fn.toN i) (F Fn.toN (F Fn.ar BinOp.add IntKind.i64 i 1))), PV.int IntKind.i64 0, PV.int IntKind.i64 i]])) = true) (h10 : F Fn.emp (F Fn.rpart [[PV.int IntKind.i64 3, PV.str (F Fn.scut t (F Fn.toN i) (F Fn.toN (F Fn.ar BinOp.add IntKind.i64 i 1))), PV.int IntKind.i64 0, PV.int IntKind.i64 i]] 0 (F Fn.rlen [[PV.int IntKind.i64 3, PV.str (F Fn.scut t (F Fn.toN i) (F Fn.toN (F Fn.ar BinOp.add IntKind.i64 i 1))), PV.int IntKind.i64 0, PV.int IntKind.i64 i]])) = false) (h11 : F Fn.afit 0 (F Fn.rpart [[PV.int IntKind.i64 3, PV.str (F Fn.scut t (F Fn.toN i) (F Fn.toN (F Fn.ar BinOp.add IntKind.i64 i 1))), PV.int IntKind.i64 0, PV.int IntKind.i64 i]] 0 (F Fn.rlen [[PV.int IntKind.i64 3, PV.str (F Fn.scut t (F Fn.toN i) (F Fn.toN (F Fn.ar BinOp.add IntKind.i64 i 1))), PV.int IntKind.i64 0, PV.int IntKind.i64 i]])) 40 = true) : EV F fns G W B Lp ⟨0, 0⟩ c8_2 { env := [(0, zs t), (5, zn), (6, zi i), (7, uu), (16, zs t), (39, zb false), (44, uu), (60, uu), (63, uu), (160, uu), (161, uu)], fr := [(10, [])], hp := [], out := [] } = some (Ex.exit 1, { env := [(0, zs t), (5, SV.own 4 (F Fn.rpart [[PV.int IntKind.i64 3, PV.str (F Fn.scut t (F Fn.toN i) (F Fn.toN (F Fn.ar BinOp.add IntKind.i64 i 1))), PV.int IntKind.i64 0, PV.int IntKind.i64 i]] 0 (F Fn.rlen [[PV.int IntKind.i64 3, PV.str (F Fn.scut t (F Fn.toN i) (F Fn.toN (F Fn.ar BinOp.add IntKind.i64 i 1))), PV.int IntKind.i64 0, PV.int IntKind.i64 i]]))), (6, SV.p (PV.int IntKind.i64 (F Fn.ar BinOp.add IntKind.i64 i 1))), (7, uu), (16, zs t), (44, uu), (60, uu), (63, uu), (160, uu), (161, uu)], fr := [(10, [])], hp := [], out := [] }) := by
  cbv
  rw [h0]
  cbv
  rw [h1]
  cbv
  rw [h2]
  cbv
  rw [h3]
  cbv
  rw [h4]
  cbv
  rw [h5]
  cbv
  rw [h6]
  cbv
  rw [h7]
  cbv
  rw [h8]
  cbv
  rw [h9]
  cbv
  rw [if_neg (by exact fun h => Bool.noConfusion (h10.symm.trans h))]
  cbv
  rw [h11]
  cbv
theorem h8B_0 (F : Fns) (fns) (G : GT) (W : WT) (B : BT)  (Lp : LPT) (t : List UInt8) (i k0 k1 k2 : Int) (rows : List (List PV))   (h0 : F Fn.cmp BinOp.lss i (Int.ofNat (F Fn.slen t)) = true) : EV F fns G W B Lp ⟨0, 0⟩ c8h { env := [(0, zs t), (5, SV.own 4 rows), (6, zi i), (7, uu), (16, zs t), (44, uu), (60, uu), (63, uu), (160, uu), (161, uu)], fr := [(10, [])], hp := [], out := [] } = some (Ex.normal, { env := [(0, zs t), (5, SV.own 4 rows), (6, zi i), (7, uu), (16, zs t), (20, zb true), (44, uu), (60, uu), (63, uu), (160, uu), (161, uu)], fr := [(10, [])], hp := [], out := [] }) := by
  cbv
  rw [h0]
  cbv
theorem h8B_1 (F : Fns) (fns) (G : GT) (W : WT) (B : BT)  (Lp : LPT) (t : List UInt8) (i k0 k1 k2 : Int) (rows : List (List PV))   (h0 : F Fn.cmp BinOp.lss i (Int.ofNat (F Fn.slen t)) = false) : EV F fns G W B Lp ⟨0, 0⟩ c8h { env := [(0, zs t), (5, SV.own 4 rows), (6, zi i), (7, uu), (16, zs t), (44, uu), (60, uu), (63, uu), (160, uu), (161, uu)], fr := [(10, [])], hp := [], out := [] } = some (Ex.exit 0, { env := [(0, zs t), (5, SV.own 4 rows), (6, zi i), (7, uu), (16, zs t), (20, zb false), (44, uu), (60, uu), (63, uu), (160, uu), (161, uu)], fr := [(10, [])], hp := [], out := [] }) := by
  cbv
  rw [h0]
  cbv
theorem w0B_0 (F : Fns) (fns) (G : GT) (W : WT) (B : BT)  (Lp : LPT) (t : List UInt8) (i k0 k1 k2 : Int) (rows : List (List PV))  (x0 : UInt8) (h0 : F Fn.cmp BinOp.leq 0 i = true) (h1 : F Fn.sget t (F Fn.toN i) = some x0) (h2 : G [32, 9, 10, 13] = true) (h3 : W (Int.ofNat ↑x0.toBitVec.toFin) [32, 9, 10, 13] = true) : EV F fns G W B Lp ⟨0, 0⟩ c8_0 { env := [(0, zs t), (5, SV.own 4 rows), (6, zi i), (7, uu), (16, zs t), (20, zb true), (44, uu), (60, uu), (63, uu), (160, uu), (161, uu)], fr := [(10, [])], hp := [], out := [] } = some (Ex.exit 1, { env := [(0, zs t), (5, SV.own 4 rows), (6, SV.p (PV.int IntKind.i64 (F Fn.ar BinOp.add IntKind.i64 i 1))), (7, uu), (16, zs t), (44, uu), (60, uu), (63, uu), (160, uu), (161, uu)], fr := [(10, [])], hp := [], out := [] }) := by
  cbv
  rw [h0]
  cbv
  rw [h1]
  cbv
  rw [h2]
  cbv
  rw [h3]
  cbv
theorem w0B_1 (F : Fns) (fns) (G : GT) (W : WT) (B : BT)  (Lp : LPT) (t : List UInt8) (i k0 k1 k2 : Int) (rows : List (List PV))  (x0 : UInt8) (h0 : F Fn.cmp BinOp.leq 0 i = true) (h1 : F Fn.sget t (F Fn.toN i) = some x0) (h2 : G [32, 9, 10, 13] = true) (h3 : W (Int.ofNat ↑x0.toBitVec.toFin) [32, 9, 10, 13] = false) : EV F fns G W B Lp ⟨0, 0⟩ c8_0 { env := [(0, zs t), (5, SV.own 4 rows), (6, zi i), (7, uu), (16, zs t), (20, zb true), (44, uu), (60, uu), (63, uu), (160, uu), (161, uu)], fr := [(10, [])], hp := [], out := [] } = some (Ex.normal, { env := [(0, zs t), (5, SV.own 4 rows), (6, zi i), (7, uu), (16, zs t), (24, zb false), (44, uu), (60, uu), (63, uu), (160, uu), (161, uu)], fr := [(10, [])], hp := [], out := [] }) := by
  cbv
  rw [h0]
  cbv
  rw [h1]
  cbv
  rw [h2]
  cbv
  rw [h3]
  cbv
theorem w1B_0 (F : Fns) (fns) (G : GT) (W : WT) (B : BT)  (Lp : LPT) (t : List UInt8) (i k0 k1 k2 : Int) (rows : List (List PV))   (h0 : F Fn.cmp BinOp.lss (F Fn.ar BinOp.add IntKind.i64 i 1) (Int.ofNat (F Fn.slen t)) = false) : EV F fns G W B Lp ⟨0, 0⟩ c8_1 { env := [(0, zs t), (5, SV.own 4 rows), (6, zi i), (7, uu), (16, zs t), (24, zb false), (44, uu), (60, uu), (63, uu), (160, uu), (161, uu)], fr := [(10, [])], hp := [], out := [] } = some (Ex.normal, { env := [(0, zs t), (5, SV.own 4 rows), (6, zi i), (7, uu), (16, zs t), (39, zb false), (44, uu), (60, uu), (63, uu), (160, uu), (161, uu)], fr := [(10, [])], hp := [], out := [] }) := by
  cbv
  rw [h0]
  cbv
theorem w1B_1 (F : Fns) (fns) (G : GT) (W : WT) (B : BT)  (Lp : LPT) (t : List UInt8) (i k0 k1 k2 : Int) (rows : List (List PV))   (h0 : F Fn.cmp BinOp.lss (F Fn.ar BinOp.add IntKind.i64 i 1) (Int.ofNat (F Fn.slen t)) = true) (h1 : F Fn.cmp BinOp.leq 0 (F Fn.ar BinOp.add IntKind.i64 i 2) = true) (h2 : F Fn.cmp BinOp.leq 0 i = true) (h3 : F Fn.le (F Fn.toN i) (F Fn.toN (F Fn.ar BinOp.add IntKind.i64 i 2)) = true) (h4 : F Fn.le (F Fn.toN (F Fn.ar BinOp.add IntKind.i64 i 2)) (F Fn.slen t) = true) (h5 : F Fn.scmp BinOp.eql (F Fn.scut t (F Fn.toN i) (F Fn.toN (F Fn.ar BinOp.add IntKind.i64 i 2))) [45, 62] = false) : EV F fns G W B Lp ⟨0, 0⟩ c8_1 { env := [(0, zs t), (5, SV.own 4 rows), (6, zi i), (7, uu), (16, zs t), (24, zb false), (44, uu), (60, uu), (63, uu), (160, uu), (161, uu)], fr := [(10, [])], hp := [], out := [] } = some (Ex.normal, { env := [(0, zs t), (5, SV.own 4 rows), (6, zi i), (7, uu), (16, zs t), (39, zb false), (44, uu), (60, uu), (63, uu), (160, uu), (161, uu)], fr := [(10, [])], hp := [], out := [] }) := by
  cbv
  rw [h0]
  cbv
  rw [h1]
  cbv
  rw [h2]
  cbv
  rw [h3]
  cbv
  rw [h4]
  cbv
  rw [h5]
  cbv
theorem w1B_2 (F : Fns) (fns) (G : GT) (W : WT) (B : BT)  (Lp : LPT) (t : List UInt8) (i k0 k1 k2 : Int) (rows : List (List PV))   (h0 : F Fn.cmp BinOp.lss (F Fn.ar BinOp.add IntKind.i64 i 1) (Int.ofNat (F Fn.slen t)) = true) (h1 : F Fn.cmp BinOp.leq 0 (F Fn.ar BinOp.add IntKind.i64 i 2) = true) (h2 : F Fn.cmp BinOp.leq 0 i = true) (h3 : F Fn.le (F Fn.toN i) (F Fn.toN (F Fn.ar BinOp.add IntKind.i64 i 2)) = true) (h4 : F Fn.le (F Fn.toN (F Fn.ar BinOp.add IntKind.i64 i 2)) (F Fn.slen t) = true) (h5 : F Fn.scmp BinOp.eql (F Fn.scut t (F Fn.toN i) (F Fn.toN (F Fn.ar BinOp.add IntKind.i64 i 2))) [45, 62] = true) (h6 : F Fn.le (F Fn.add 0 (F Fn.rlen [[PV.int IntKind.i64 3, PV.str [45, 62], PV.int IntKind.i64 0, PV.int IntKind.i64 i]])) (F Fn.rlen [[PV.int IntKind.i64 3, PV.str [45, 62], PV.int IntKind.i64 0, PV.int IntKind.i64 i]]) = true) (h7 : F Fn.lens 4 (F Fn.rpart [[PV.int IntKind.i64 3, PV.str [45, 62], PV.int IntKind.i64 0, PV.int IntKind.i64 i]] 0 (F Fn.rlen [[PV.int IntKind.i64 3, PV.str [45, 62], PV.int IntKind.i64 0, PV.int IntKind.i64 i]])) = true) (h8 : F Fn.le (F Fn.add 0 (F Fn.rlen rows)) (F Fn.rlen rows) = true) (h9 : F Fn.afit (F Fn.rlen rows) (F Fn.rpart [[PV.int IntKind.i64 3, PV.str [45, 62], PV.int IntKind.i64 0, PV.int IntKind.i64 i]] 0 (F Fn.rlen [[PV.int IntKind.i64 3, PV.str [45, 62], PV.int IntKind.i64 0, PV.int IntKind.i64 i]])) 40 = true) : EV F fns G W B Lp ⟨0, 0⟩ c8_1 { env := [(0, zs t), (5, SV.own 4 rows), (6, zi i), (7, uu), (16, zs t), (24, zb false), (44, uu), (60, uu), (63, uu), (160, uu), (161, uu)], fr := [(10, [])], hp := [], out := [] } = some (Ex.exit 1, { env := [(0, zs t), (5, SV.own 4 (F Fn.rcat (F Fn.rpart rows 0 (F Fn.rlen rows)) (F Fn.rpart [[PV.int IntKind.i64 3, PV.str [45, 62], PV.int IntKind.i64 0, PV.int IntKind.i64 i]] 0 (F Fn.rlen [[PV.int IntKind.i64 3, PV.str [45, 62], PV.int IntKind.i64 0, PV.int IntKind.i64 i]])))), (6, SV.p (PV.int IntKind.i64 (F Fn.ar BinOp.add IntKind.i64 i 2))), (7, uu), (16, zs t), (44, uu), (60, uu), (63, uu), (160, uu), (161, uu)], fr := [(10, [])], hp := [], out := [] }) := by
  cbv
  rw [h0]
  cbv
  rw [h1]
  cbv
  rw [h2]
  cbv
  rw [h3]
  cbv
  rw [h4]
  cbv
  rw [h5]
  cbv
  rw [h6]
  cbv
  rw [h7]
  cbv
  rw [h8]
  cbv
  rw [h9]
  cbv
theorem w2B_0 (F : Fns) (fns) (G : GT) (W : WT) (B : BT)  (Lp : LPT) (t : List UInt8) (i k0 k1 k2 : Int) (rows : List (List PV))  (x0 : UInt8) (h0 : F Fn.cmp BinOp.leq 0 i = true) (h1 : F Fn.sget t (F Fn.toN i) = some x0) (h2 : G [61, 44, 59, 38, 33, 58, 45] = true) (h3 : W (Int.ofNat ↑x0.toBitVec.toFin) [61, 44, 59, 38, 33, 58, 45] = false) : EV F fns G W B Lp ⟨0, 0⟩ c8_2 { env := [(0, zs t), (5, SV.own 4 rows), (6, zi i), (7, uu), (16, zs t), (39, zb false), (44, uu), (60, uu), (63, uu), (160, uu), (161, uu)], fr := [(10, [])], hp := [], out := [] } = some (Ex.normal, { env := [(0, zs t), (5, SV.own 4 rows), (6, zi i), (7, uu), (16, zs t), (44, uu), (50, zb false), (60, uu), (63, uu), (160, uu), (161, uu)], fr := [(10, [])], hp := [], out := [] }) := by
  cbv
  rw [h0]
  cbv
  rw [h1]
  cbv
  rw [h2]
  cbv
  rw [h3]
  cbv
theorem w2B_1 (F : Fns) (fns) (G : GT) (W : WT) (B : BT)  (Lp : LPT) (t : List UInt8) (i k0 k1 k2 : Int) (rows : List (List PV))  (x0 : UInt8) (h0 : F Fn.cmp BinOp.leq 0 i = true) (h1 : F Fn.sget t (F Fn.toN i) = some x0) (h2 : G [61, 44, 59, 38, 33, 58, 45] = true) (h3 : W (Int.ofNat ↑x0.toBitVec.toFin) [61, 44, 59, 38, 33, 58, 45] = true) (h4 : F Fn.cmp BinOp.leq 0 (F Fn.ar BinOp.add IntKind.i64 i 1) = true) (h5 : F Fn.cmp BinOp.leq 0 i = true) (h6 : F Fn.le (F Fn.toN i) (F Fn.toN (F Fn.ar BinOp.add IntKind.i64 i 1)) = true) (h7 : F Fn.le (F Fn.toN (F Fn.ar BinOp.add IntKind.i64 i 1)) (F Fn.slen t) = true) (h8 : F Fn.le (F Fn.add 0 (F Fn.rlen [[PV.int IntKind.i64 3, PV.str (F Fn.scut t (F Fn.toN i) (F Fn.toN (F Fn.ar BinOp.add IntKind.i64 i 1))), PV.int IntKind.i64 0, PV.int IntKind.i64 i]])) (F Fn.rlen [[PV.int IntKind.i64 3, PV.str (F Fn.scut t (F Fn.toN i) (F Fn.toN (F Fn.ar BinOp.add IntKind.i64 i 1))), PV.int IntKind.i64 0, PV.int IntKind.i64 i]]) = true) (h9 : F Fn.lens 4 (F Fn.rpart [[PV.int IntKind.i64 3, PV.str (F Fn.scut t (F Fn.toN i) (F Fn.toN (F Fn.ar BinOp.add IntKind.i64 i 1))), PV.int IntKind.i64 0, PV.int IntKind.i64 i]] 0 (F Fn.rlen [[PV.int IntKind.i64 3, PV.str (F Fn.scut t (F Fn.toN i) (F Fn.toN (F Fn.ar BinOp.add IntKind.i64 i 1))), PV.int IntKind.i64 0, PV.int IntKind.i64 i]])) = true) (h10 : F Fn.le (F Fn.add 0 (F Fn.rlen rows)) (F Fn.rlen rows) = true) (h11 : F Fn.afit (F Fn.rlen rows) (F Fn.rpart [[PV.int IntKind.i64 3, PV.str (F Fn.scut t (F Fn.toN i) (F Fn.toN (F Fn.ar BinOp.add IntKind.i64 i 1))), PV.int IntKind.i64 0, PV.int IntKind.i64 i]] 0 (F Fn.rlen [[PV.int IntKind.i64 3, PV.str (F Fn.scut t (F Fn.toN i) (F Fn.toN (F Fn.ar BinOp.add IntKind.i64 i 1))), PV.int IntKind.i64 0, PV.int IntKind.i64 i]])) 40 = true) : EV F fns G W B Lp ⟨0, 0⟩ c8_2 { env := [(0, zs t), (5, SV.own 4 rows), (6, zi i), (7, uu), (16, zs t), (39, zb false), (44, uu), (60, uu), (63, uu), (160, uu), (161, uu)], fr := [(10, [])], hp := [], out := [] } = some (Ex.exit 1, { env := [(0, zs t), (5, SV.own 4 (F Fn.rcat (F Fn.rpart rows 0 (F Fn.rlen rows)) (F Fn.rpart [[PV.int IntKind.i64 3, PV.str (F Fn.scut t (F Fn.toN i) (F Fn.toN (F Fn.ar BinOp.add IntKind.i64 i 1))), PV.int IntKind.i64 0, PV.int IntKind.i64 i]] 0 (F Fn.rlen [[PV.int IntKind.i64 3, PV.str (F Fn.scut t (F Fn.toN i) (F Fn.toN (F Fn.ar BinOp.add IntKind.i64 i 1))), PV.int IntKind.i64 0, PV.int IntKind.i64 i]])))), (6, SV.p (PV.int IntKind.i64 (F Fn.ar BinOp.add IntKind.i64 i 1))), (7, uu), (16, zs t), (44, uu), (60, uu), (63, uu), (160, uu), (161, uu)], fr := [(10, [])], hp := [], out := [] }) := by
  cbv
  rw [h0]
  cbv
  rw [h1]
  cbv
  rw [h2]
  cbv
  rw [h3]
  cbv
  rw [h4]
  cbv
  rw [h5]
  cbv
  rw [h6]
  cbv
  rw [h7]
  cbv
  rw [h8]
  cbv
  rw [h9]
  cbv
  rw [h10]
  cbv
  rw [h11]
  cbv
theorem h8C_0 (F : Fns) (fns) (G : GT) (W : WT) (B : BT)  (Lp : LPT) (t : List UInt8) (i k0 k1 k2 : Int) (rows : List (List PV))   (h0 : F Fn.cmp BinOp.lss i (Int.ofNat (F Fn.slen t)) = true) : EV F fns G W B Lp ⟨0, 0⟩ c8h { env := [(0, zs t), (5, SV.own 4 rows), (6, zi i), (7, zi k0), (16, zs t), (44, uu), (60, uu), (63, zi k1), (160, uu), (161, zi k2)], fr := [(10, [])], hp := [], out := [] } = some (Ex.normal, { env := [(0, zs t), (5, SV.own 4 rows), (6, zi i), (7, zi k0), (16, zs t), (20, zb true), (44, uu), (60, uu), (63, zi k1), (160, uu), (161, zi k2)], fr := [(10, [])], hp := [], out := [] }) := by
  cbv
  rw [h0]
  cbv
theorem h8C_1 (F : Fns) (fns) (G : GT) (W : WT) (B : BT)  (Lp : LPT) (t : List UInt8) (i k0 k1 k2 : Int) (rows : List (List PV))   (h0 : F Fn.cmp BinOp.lss i (Int.ofNat (F Fn.slen t)) = false) : EV F fns G W B Lp ⟨0, 0⟩ c8h { env := [(0, zs t), (5, SV.own 4 rows), (6, zi i), (7, zi k0), (16, zs t), (44, uu), (60, uu), (63, zi k1), (160, uu), (161, zi k2)], fr := [(10, [])], hp := [], out := [] } = some (Ex.exit 0, { env := [(0, zs t), (5, SV.own 4 rows), (6, zi i), (7, zi k0), (16, zs t), (20, zb false), (44, uu), (60, uu), (63, zi k1), (160, uu), (161, zi k2)], fr := [(10, [])], hp := [], out := [] }) := by
  cbv
  rw [h0]
  cbv
theorem w0C_0 (F : Fns) (fns) (G : GT) (W : WT) (B : BT)  (Lp : LPT) (t : List UInt8) (i k0 k1 k2 : Int) (rows : List (List PV))  (x0 : UInt8) (h0 : F Fn.cmp BinOp.leq 0 i = true) (h1 : F Fn.sget t (F Fn.toN i) = some x0) (h2 : G [32, 9, 10, 13] = true) (h3 : W (Int.ofNat ↑x0.toBitVec.toFin) [32, 9, 10, 13] = true) : EV F fns G W B Lp ⟨0, 0⟩ c8_0 { env := [(0, zs t), (5, SV.own 4 rows), (6, zi i), (7, zi k0), (16, zs t), (20, zb true), (44, uu), (60, uu), (63, zi k1), (160, uu), (161, zi k2)], fr := [(10, [])], hp := [], out := [] } = some (Ex.exit 1, { env := [(0, zs t), (5, SV.own 4 rows), (6, SV.p (PV.int IntKind.i64 (F Fn.ar BinOp.add IntKind.i64 i 1))), (7, zi k0), (16, zs t), (44, uu), (60, uu), (63, zi k1), (160, uu), (161, zi k2)], fr := [(10, [])], hp := [], out := [] }) := by
  cbv
  rw [h0]
  cbv
  rw [h1]
  cbv
  rw [h2]
  cbv
  rw [h3]
  cbv
theorem w0C_1 (F : Fns) (fns) (G : GT) (W : WT) (B : BT)  (Lp : LPT) (t : List UInt8) (i k0 k1 k2 : Int) (rows : List (List PV))  (x0 : UInt8) (h0 : F Fn.cmp BinOp.leq 0 i = true) (h1 : F Fn.sget t (F Fn.toN i) = some x0) (h2 : G [32, 9, 10, 13] = true) (h3 : W (Int.ofNat ↑x0.toBitVec.toFin) [32, 9, 10, 13] = false) : EV F fns G W B Lp ⟨0, 0⟩ c8_0 { env := [(0, zs t), (5, SV.own 4 rows), (6, zi i), (7, zi k0), (16, zs t), (20, zb true), (44, uu), (60, uu), (63, zi k1), (160, uu), (161, zi k2)], fr := [(10, [])], hp := [], out := [] } = some (Ex.normal, { env := [(0, zs t), (5, SV.own 4 rows), (6, zi i), (7, zi k0), (16, zs t), (24, zb false), (44, uu), (60, uu), (63, zi k1), (160, uu), (161, zi k2)], fr := [(10, [])], hp := [], out := [] }) := by
  cbv
  rw [h0]
  cbv
  rw [h1]
  cbv
  rw [h2]
  cbv
  rw [h3]
  cbv
theorem w1C_0 (F : Fns) (fns) (G : GT) (W : WT) (B : BT)  (Lp : LPT) (t : List UInt8) (i k0 k1 k2 : Int) (rows : List (List PV))   (h0 : F Fn.cmp BinOp.lss (F Fn.ar BinOp.add IntKind.i64 i 1) (Int.ofNat (F Fn.slen t)) = false) : EV F fns G W B Lp ⟨0, 0⟩ c8_1 { env := [(0, zs t), (5, SV.own 4 rows), (6, zi i), (7, zi k0), (16, zs t), (24, zb false), (44, uu), (60, uu), (63, zi k1), (160, uu), (161, zi k2)], fr := [(10, [])], hp := [], out := [] } = some (Ex.normal, { env := [(0, zs t), (5, SV.own 4 rows), (6, zi i), (7, zi k0), (16, zs t), (39, zb false), (44, uu), (60, uu), (63, zi k1), (160, uu), (161, zi k2)], fr := [(10, [])], hp := [], out := [] }) := by
  cbv
  rw [h0]
  cbv
theorem w1C_1 (F : Fns) (fns) (G : GT) (W : WT) (B : BT)  (Lp : LPT) (t : List UInt8) (i k0 k1 k2 : Int) (rows : List (List PV))   (h0 : F Fn.cmp BinOp.lss (F Fn.ar BinOp.add IntKind.i64 i 1) (Int.ofNat (F Fn.slen t)) = true) (h1 : F Fn.cmp BinOp.leq 0 (F Fn.ar BinOp.add IntKind.i64 i 2) = true) (h2 : F Fn.cmp BinOp.leq 0 i = true) (h3 : F Fn.le (F Fn.toN i) (F Fn.toN (F Fn.ar BinOp.add IntKind.i64 i 2)) = true) (h4 : F Fn.le (F Fn.toN (F Fn.ar BinOp.add IntKind.i64 i 2)) (F Fn.slen t) = true) (h5 : F Fn.scmp BinOp.eql (F Fn.scut t (F Fn.toN i) (F Fn.toN (F Fn.ar BinOp.add IntKind.i64 i 2))) [45, 62] = false) : EV F fns G W B Lp ⟨0, 0⟩ c8_1 { env := [(0, zs t), (5, SV.own 4 rows), (6, zi i), (7, zi k0), (16, zs t), (24, zb false), (44, uu), (60, uu), (63, zi k1), (160, uu), (161, zi k2)], fr := [(10, [])], hp := [], out := [] } = some (Ex.normal, { env := [(0, zs t), (5, SV.own 4 rows), (6, zi i), (7, zi k0), (16, zs t), (39, zb false), (44, uu), (60, uu), (63, zi k1), (160, uu), (161, zi k2)], fr := [(10, [])], hp := [], out := [] }) := by
  cbv
  rw [h0]
  cbv
  rw [h1]
  cbv
  rw [h2]
  cbv
  rw [h3]
  cbv
  rw [h4]
  cbv
  rw [h5]
  cbv
theorem w1C_2 (F : Fns) (fns) (G : GT) (W : WT) (B : BT)  (Lp : LPT) (t : List UInt8) (i k0 k1 k2 : Int) (rows : List (List PV))   (h0 : F Fn.cmp BinOp.lss (F Fn.ar BinOp.add IntKind.i64 i 1) (Int.ofNat (F Fn.slen t)) = true) (h1 : F Fn.cmp BinOp.leq 0 (F Fn.ar BinOp.add IntKind.i64 i 2) = true) (h2 : F Fn.cmp BinOp.leq 0 i = true) (h3 : F Fn.le (F Fn.toN i) (F Fn.toN (F Fn.ar BinOp.add IntKind.i64 i 2)) = true) (h4 : F Fn.le (F Fn.toN (F Fn.ar BinOp.add IntKind.i64 i 2)) (F Fn.slen t) = true) (h5 : F Fn.scmp BinOp.eql (F Fn.scut t (F Fn.toN i) (F Fn.toN (F Fn.ar BinOp.add IntKind.i64 i 2))) [45, 62] = true) (h6 : F Fn.le (F Fn.add 0 (F Fn.rlen [[PV.int IntKind.i64 3, PV.str [45, 62], PV.int IntKind.i64 0, PV.int IntKind.i64 i]])) (F Fn.rlen [[PV.int IntKind.i64 3, PV.str [45, 62], PV.int IntKind.i64 0, PV.int IntKind.i64 i]]) = true) (h7 : F Fn.lens 4 (F Fn.rpart [[PV.int IntKind.i64 3, PV.str [45, 62], PV.int IntKind.i64 0, PV.int IntKind.i64 i]] 0 (F Fn.rlen [[PV.int IntKind.i64 3, PV.str [45, 62], PV.int IntKind.i64 0, PV.int IntKind.i64 i]])) = true) (h8 : F Fn.le (F Fn.add 0 (F Fn.rlen rows)) (F Fn.rlen rows) = true) (h9 : F Fn.afit (F Fn.rlen rows) (F Fn.rpart [[PV.int IntKind.i64 3, PV.str [45, 62], PV.int IntKind.i64 0, PV.int IntKind.i64 i]] 0 (F Fn.rlen [[PV.int IntKind.i64 3, PV.str [45, 62], PV.int IntKind.i64 0, PV.int IntKind.i64 i]])) 40 = true) : EV F fns G W B Lp ⟨0, 0⟩ c8_1 { env := [(0, zs t), (5, SV.own 4 rows), (6, zi i), (7, zi k0), (16, zs t), (24, zb false), (44, uu), (60, uu), (63, zi k1), (160, uu), (161, zi k2)], fr := [(10, [])], hp := [], out := [] } = some (Ex.exit 1, { env := [(0, zs t), (5, SV.own 4 (F Fn.rcat (F Fn.rpart rows 0 (F Fn.rlen rows)) (F Fn.rpart [[PV.int IntKind.i64 3, PV.str [45, 62], PV.int IntKind.i64 0, PV.int IntKind.i64 i]] 0 (F Fn.rlen [[PV.int IntKind.i64 3, PV.str [45, 62], PV.int IntKind.i64 0, PV.int IntKind.i64 i]])))), (6, SV.p (PV.int IntKind.i64 (F Fn.ar BinOp.add IntKind.i64 i 2))), (7, zi k0), (16, zs t), (44, uu), (60, uu), (63, zi k1), (160, uu), (161, zi k2)], fr := [(10, [])], hp := [], out := [] }) := by
  cbv
  rw [h0]
  cbv
  rw [h1]
  cbv
  rw [h2]
  cbv
  rw [h3]
  cbv
  rw [h4]
  cbv
  rw [h5]
  cbv
  rw [h6]
  cbv
  rw [h7]
  cbv
  rw [h8]
  cbv
  rw [h9]
  cbv
theorem w2C_0 (F : Fns) (fns) (G : GT) (W : WT) (B : BT)  (Lp : LPT) (t : List UInt8) (i k0 k1 k2 : Int) (rows : List (List PV))  (x0 : UInt8) (h0 : F Fn.cmp BinOp.leq 0 i = true) (h1 : F Fn.sget t (F Fn.toN i) = some x0) (h2 : G [61, 44, 59, 38, 33, 58, 45] = true) (h3 : W (Int.ofNat ↑x0.toBitVec.toFin) [61, 44, 59, 38, 33, 58, 45] = false) : EV F fns G W B Lp ⟨0, 0⟩ c8_2 { env := [(0, zs t), (5, SV.own 4 rows), (6, zi i), (7, zi k0), (16, zs t), (39, zb false), (44, uu), (60, uu), (63, zi k1), (160, uu), (161, zi k2)], fr := [(10, [])], hp := [], out := [] } = some (Ex.normal, { env := [(0, zs t), (5, SV.own 4 rows), (6, zi i), (7, zi k0), (16, zs t), (44, uu), (50, zb false), (60, uu), (63, zi k1), (160, uu), (161, zi k2)], fr := [(10, [])], hp := [], out := [] }) := by
  cbv
  rw [h0]
  cbv
  rw [h1]
  cbv
  rw [h2]
  cbv
  rw [h3]
  cbv
theorem w2C_1 (F : Fns) (fns) (G : GT) (W : WT) (B : BT)  (Lp : LPT) (t : List UInt8) (i k0 k1 k2 : Int) (rows : List (List PV))  (x0 : UInt8) (h0 : F Fn.cmp BinOp.leq 0 i = true) (h1 : F Fn.sget t (F Fn.toN i) = some x0) (h2 : G [61, 44, 59, 38, 33, 58, 45] = true) (h3 : W (Int.ofNat ↑x0.toBitVec.toFin) [61, 44, 59, 38, 33, 58, 45] = true) (h4 : F Fn.cmp BinOp.leq 0 (F Fn.ar BinOp.add IntKind.i64 i 1) = true) (h5 : F Fn.cmp BinOp.leq 0 i = true) (h6 : F Fn.le (F Fn.toN i) (F Fn.toN (F Fn.ar BinOp.add IntKind.i64 i 1)) = true) (h7 : F Fn.le (F Fn.toN (F Fn.ar BinOp.add IntKind.i64 i 1)) (F Fn.slen t) = true) (h8 : F Fn.le (F Fn.add 0 (F Fn.rlen [[PV.int IntKind.i64 3, PV.str (F Fn.scut t (F Fn.toN i) (F Fn.toN (F Fn.ar BinOp.add IntKind.i64 i 1))), PV.int IntKind.i64 0, PV.int IntKind.i64 i]])) (F Fn.rlen [[PV.int IntKind.i64 3, PV.str (F Fn.scut t (F Fn.toN i) (F Fn.toN (F Fn.ar BinOp.add IntKind.i64 i 1))), PV.int IntKind.i64 0, PV.int IntKind.i64 i]]) = true) (h9 : F Fn.lens 4 (F Fn.rpart [[PV.int IntKind.i64 3, PV.str (F Fn.scut t (F Fn.toN i) (F Fn.toN (F Fn.ar BinOp.add IntKind.i64 i 1))), PV.int IntKind.i64 0, PV.int IntKind.i64 i]] 0 (F Fn.rlen [[PV.int IntKind.i64 3, PV.str (F Fn.scut t (F Fn.toN i) (F Fn.toN (F Fn.ar BinOp.add IntKind.i64 i 1))), PV.int IntKind.i64 0, PV.int IntKind.i64 i]])) = true) (h10 : F Fn.le (F Fn.add 0 (F Fn.rlen rows)) (F Fn.rlen rows) = true) (h11 : F Fn.afit (F Fn.rlen rows) (F Fn.rpart [[PV.int IntKind.i64 3, PV.str (F Fn.scut t (F Fn.toN i) (F Fn.toN (F Fn.ar BinOp.add IntKind.i64 i 1))), PV.int IntKind.i64 0, PV.int IntKind.i64 i]] 0 (F Fn.rlen [[PV.int IntKind.i64 3, PV.str (F Fn.scut t (F Fn.toN i) (F Fn.toN (F Fn.ar BinOp.add IntKind.i64 i 1))), PV.int IntKind.i64 0, PV.int IntKind.i64 i]])) 40 = true) : EV F fns G W B Lp ⟨0, 0⟩ c8_2 { env := [(0, zs t), (5, SV.own 4 rows), (6, zi i), (7, zi k0), (16, zs t), (39, zb false), (44, uu), (60, uu), (63, zi k1), (160, uu), (161, zi k2)], fr := [(10, [])], hp := [], out := [] } = some (Ex.exit 1, { env := [(0, zs t), (5, SV.own 4 (F Fn.rcat (F Fn.rpart rows 0 (F Fn.rlen rows)) (F Fn.rpart [[PV.int IntKind.i64 3, PV.str (F Fn.scut t (F Fn.toN i) (F Fn.toN (F Fn.ar BinOp.add IntKind.i64 i 1))), PV.int IntKind.i64 0, PV.int IntKind.i64 i]] 0 (F Fn.rlen [[PV.int IntKind.i64 3, PV.str (F Fn.scut t (F Fn.toN i) (F Fn.toN (F Fn.ar BinOp.add IntKind.i64 i 1))), PV.int IntKind.i64 0, PV.int IntKind.i64 i]])))), (6, SV.p (PV.int IntKind.i64 (F Fn.ar BinOp.add IntKind.i64 i 1))), (7, zi k0), (16, zs t), (44, uu), (60, uu), (63, zi k1), (160, uu), (161, zi k2)], fr := [(10, [])], hp := [], out := [] }) := by
  cbv
  rw [h0]
  cbv
  rw [h1]
  cbv
  rw [h2]
  cbv
  rw [h3]
  cbv
  rw [h4]
  cbv
  rw [h5]
  cbv
  rw [h6]
  cbv
  rw [h7]
  cbv
  rw [h8]
  cbv
  rw [h9]
  cbv
  rw [h10]
  cbv
  rw [h11]
  cbv
theorem w3A_0 (F : Fns) (fns) (G : GT) (W : WT) (B : BT)  (Lp : LPT) (t : List UInt8) (i k0 k1 k2 : Int) (rows : List (List PV))    : EV F fns G W B Lp ⟨0, 0⟩ c8_3 { env := [(0, zs t), (5, zn), (6, zi i), (7, uu), (16, zs t), (44, uu), (50, zb false), (60, uu), (63, uu), (160, uu), (161, uu)], fr := [(10, [])], hp := [], out := [] } = some (Ex.normal, { env := [(0, zs t), (5, zn), (6, zi i), (7, zi i), (16, zs t), (44, uu), (60, uu), (63, zi i), (160, uu), (161, uu)], fr := [(10, [])], hp := [], out := [] }) := by
  cbv
theorem w4A_0 (F : Fns) (fns) (G : GT) (W : WT) (B : BT)  (Lp : LPT) (t : List UInt8) (i k0 k1 k2 : Int) (rows : List (List PV))    : EV F fns G W B Lp ⟨0, 0⟩ c8_4 { env := [(0, zs t), (5, zn), (6, zi i), (7, zi i), (16, zs t), (44, uu), (60, uu), (63, zi i), (160, uu), (161, uu)], fr := [(10, [])], hp := [], out := [] } = some (Ex.normal, { env := [(0, zs t), (5, zn), (6, zi i), (7, zi i), (8, zb true), (16, zs t), (44, uu), (60, uu), (63, zi i), (86, uu), (160, uu), (161, uu)], fr := [(10, [])], hp := [], out := [] }) := by
  cbv
theorem it8kDA_0 (F : Fns) (fns) (G : GT) (W : WT) (B : BT) (t w : List UInt8) (i k k2 : Int) (v al : Bool) (rows : List (List PV))   (h0 : F Fn.cmp BinOp.lss k (Int.ofNat (F Fn.slen t)) = false) : EV F fns G W B n2 ⟨0, 0⟩ b8k { env := [(0, zs t), (5, zn), (6, zi i), (7, zi k), (8, zb true), (16, zs t), (44, uu), (60, uu), (63, zi i), (86, uu), (160, uu), (161, uu)], fr := [(10, [])], hp := [], out := [] } = some (Ex.exit 2, { env := [(0, zs t), (5, zn), (6, zi i), (7, zi k), (8, zb true), (16, zs t), (44, uu), (60, uu), (63, zi i), (79, zb false), (86, uu), (160, uu), (161, uu)], fr := [(10, [])], hp := [], out := [] }) := by
  cbv
  rw [h0]
  cbv
theorem it8kDA_1 (F : Fns) (fns) (G : GT) (W : WT) (B : BT) (t w : List UInt8) (i k k2 : Int) (v al : Bool) (rows : List (List PV))  (x0 : UInt8) (h0 : F Fn.cmp BinOp.lss k (Int.ofNat (F Fn.slen t)) = true) (h1 : F Fn.cmp BinOp.leq 0 k = true) (h2 : F Fn.sget t (F Fn.toN k) = some x0) (h3 : G LT = true) (h4 : W (Int.ofNat ↑x0.toBitVec.toFin) LT = true) (h5 : F Fn.cmp BinOp.leq 0 k = true) (h6 : F Fn.sget t (F Fn.toN k) = some x0) (h7 : G DG = true) : EV F fns G W B n2 ⟨0, 0⟩ b8k { env := [(0, zs t), (5, zn), (6, zi i), (7, zi k), (8, zb true), (16, zs t), (44, uu), (60, uu), (63, zi i), (86, uu), (160, uu), (161, uu)], fr := [(10, [])], hp := [], out := [] } = some (Ex.normal, { env := [(0, zs t), (5, zn), (6, zi i), (7, SV.p (PV.int IntKind.i64 (F Fn.ar BinOp.add IntKind.i64 k 1))), (8, SV.p (PV.bool (W (Int.ofNat ↑x0.toBitVec.toFin) DG))), (16, zs t), (44, uu), (60, uu), (63, zi i), (86, SV.p (PV.bool (W (Int.ofNat ↑x0.toBitVec.toFin) DG))), (160, uu), (161, uu)], fr := [(10, [])], hp := [], out := [] }) := by
  cbv
  rw [h0]
  cbv
  rw [h1]
  cbv
  rw [h2]
  cbv
  rw [h3]
  cbv
  rw [h4]
  cbv
  rw [h5]
  cbv
  rw [h6]
  cbv
  rw [h7]
  cbv
theorem it8kDA_2 (F : Fns) (fns) (G : GT) (W : WT) (B : BT) (t w : List UInt8) (i k k2 : Int) (v al : Bool) (rows : List (List PV))  (x0 : UInt8) (h0 : F Fn.cmp BinOp.lss k (Int.ofNat (F Fn.slen t)) = true) (h1 : F Fn.cmp BinOp.leq 0 k = true) (h2 : F Fn.sget t (F Fn.toN k) = some x0) (h3 : G LT = true) (h4 : W (Int.ofNat ↑x0.toBitVec.toFin) LT = false) (h5 : F Fn.cmp BinOp.leq 0 k = true) (h6 : F Fn.sget t (F Fn.toN k) = some x0) (h7 : G DG = true) (h8 : W (Int.ofNat ↑x0.toBitVec.toFin) DG = false) : EV F fns G W B n2 ⟨0, 0⟩ b8k { env := [(0, zs t), (5, zn), (6, zi i), (7, zi k), (8, zb true), (16, zs t), (44, uu), (60, uu), (63, zi i), (86, uu), (160, uu), (161, uu)], fr := [(10, [])], hp := [], out := [] } = some (Ex.exit 2, { env := [(0, zs t), (5, zn), (6, zi i), (7, zi k), (8, zb true), (16, zs t), (44, uu), (60, uu), (63, zi i), (79, zb false), (86, uu), (160, uu), (161, uu)], fr := [(10, [])], hp := [], out := [] }) := by
  cbv
  rw [h0]
  cbv
  rw [h1]
  cbv
  rw [h2]
  cbv
  rw [h3]
  cbv
  rw [h4]
  cbv
  rw [h5]
  cbv
  rw [h6]
  cbv
  rw [h7]
  cbv
  rw [h8]
  cbv
theorem it8kDA_3 (F : Fns) (fns) (G : GT) (W : WT) (B : BT) (t w : List UInt8) (i k k2 : Int) (v al : Bool) (rows : List (List PV))  (x0 : UInt8) (h0 : F Fn.cmp BinOp.lss k (Int.ofNat (F Fn.slen t)) = true) (h1 : F Fn.cmp BinOp.leq 0 k = true) (h2 : F Fn.sget t (F Fn.toN k) = some x0) (h3 : G LT = true) (h4 : W (Int.ofNat ↑x0.toBitVec.toFin) LT = false) (h5 : F Fn.cmp BinOp.leq 0 k = true) (h6 : F Fn.sget t (F Fn.toN k) = some x0) (h7 : G DG = true) (h8 : W (Int.ofNat ↑x0.toBitVec.toFin) DG = true) (h9 : F Fn.cmp BinOp.leq 0 k = true) (h10 : F Fn.sget t (F Fn.toN k) = some x0) (h11 : G DG = true) : EV F fns G W B n2 ⟨0, 0⟩ b8k { env := [(0, zs t), (5, zn), (6, zi i), (7, zi k), (8, zb true), (16, zs t), (44, uu), (60, uu), (63, zi i), (86, uu), (160, uu), (161, uu)], fr := [(10, [])], hp := [], out := [] } = some (Ex.normal, { env := [(0, zs t), (5, zn), (6, zi i), (7, SV.p (PV.int IntKind.i64 (F Fn.ar BinOp.add IntKind.i64 k 1))), (8, SV.p (PV.bool (true))), (16, zs t), (44, uu), (60, uu), (63, zi i), (86, SV.p (PV.bool (true))), (160, uu), (161, uu)], fr := [(10, [])], hp := [], out := [] }) := by
  cbv
  rw [h0]
  cbv
  rw [h1]
  cbv
  rw [h2]
  cbv
  rw [h3]
  cbv
  rw [h4]
  cbv
  rw [h5]
  cbv
  rw [h6]
  cbv
  rw [h7]
  cbv
  rw [h8]
  cbv
  rw [h9]
  cbv
  rw [h10]
  cbv
  rw [h11]
  cbv
  rw [h8]
theorem it8kEtA_0 (F : Fns) (fns) (G : GT) (W : WT) (B : BT) (t w : List UInt8) (i k k2 : Int) (v al : Bool) (rows : List (List PV))   (h0 : F Fn.cmp BinOp.lss k (Int.ofNat (F Fn.slen t)) = false) : EV F fns G W B n2 ⟨0, 0⟩ b8k { env := [(0, zs t), (5, zn), (6, zi i), (7, zi k), (8, zb true), (16, zs t), (44, uu), (60, uu), (63, zi i), (86, zb v), (160, uu), (161, uu)], fr := [(10, [])], hp := [], out := [] } = some (Ex.exit 2, { env := [(0, zs t), (5, zn), (6, zi i), (7, zi k), (8, zb true), (16, zs t), (44, uu), (60, uu), (63, zi i), (79, zb false), (86, zb v), (160, uu), (161, uu)], fr := [(10, [])], hp := [], out := [] }) := by
  cbv
  rw [h0]
  cbv
theorem it8kEtA_1 (F : Fns) (fns) (G : GT) (W : WT) (B : BT) (t w : List UInt8) (i k k2 : Int) (v al : Bool) (rows : List (List PV))  (x0 : UInt8) (h0 : F Fn.cmp BinOp.lss k (Int.ofNat (F Fn.slen t)) = true) (h1 : F Fn.cmp BinOp.leq 0 k = true) (h2 : F Fn.sget t (F Fn.toN k) = some x0) (h3 : G LT = true) (h4 : W (Int.ofNat ↑x0.toBitVec.toFin) LT = true) (h5 : F Fn.cmp BinOp.leq 0 k = true) (h6 : F Fn.sget t (F Fn.toN k) = some x0) (h7 : G DG = true) : EV F fns G W B n2 ⟨0, 0⟩ b8k { env := [(0, zs t), (5, zn), (6, zi i), (7, zi k), (8, zb true), (16, zs t), (44, uu), (60, uu), (63, zi i), (86, zb v), (160, uu), (161, uu)], fr := [(10, [])], hp := [], out := [] } = some (Ex.normal, { env := [(0, zs t), (5, zn), (6, zi i), (7, SV.p (PV.int IntKind.i64 (F Fn.ar BinOp.add IntKind.i64 k 1))), (8, SV.p (PV.bool (W (Int.ofNat ↑x0.toBitVec.toFin) DG))), (16, zs t), (44, uu), (60, uu), (63, zi i), (86, SV.p (PV.bool (W (Int.ofNat ↑x0.toBitVec.toFin) DG))), (160, uu), (161, uu)], fr := [(10, [])], hp := [], out := [] }) := by
  cbv
  rw [h0]
  cbv
  rw [h1]
  cbv
  rw [h2]
  cbv
  rw [h3]
  cbv
  rw [h4]
  cbv
  rw [h5]
  cbv
  rw [h6]
  cbv
  rw [h7]
  cbv
theorem it8kEtA_2 (F : Fns) (fns) (G : GT) (W : WT) (B : BT) (t w : List UInt8) (i k k2 : Int) (v al : Bool) (rows : List (List PV))  (x0 : UInt8) (h0 : F Fn.cmp BinOp.lss k (Int.ofNat (F Fn.slen t)) = true) (h1 : F Fn.cmp BinOp.leq 0 k = true) (h2 : F Fn.sget t (F Fn.toN k) = some x0) (h3 : G LT = true) (h4 : W (Int.ofNat ↑x0.toBitVec.toFin) LT = false) (h5 : F Fn.cmp BinOp.leq 0 k = true) (h6 : F Fn.sget t (F Fn.toN k) = some x0) (h7 : G DG = true) (h8 : W (Int.ofNat ↑x0.toBitVec.toFin) DG = false) : EV F fns G W B n2 ⟨0, 0⟩ b8k { env := [(0, zs t), (5, zn), (6, zi i), (7, zi k), (8, zb true), (16, zs t), (44, uu), (60, uu), (63, zi i), (86, zb v), (160, uu), (161, uu)], fr := [(10, [])], hp := [], out := [] } = some (Ex.exit 2, { env := [(0, zs t), (5, zn), (6, zi i), (7, zi k), (8, zb true), (16, zs t), (44, uu), (60, uu), (63, zi i), (79, zb false), (86, zb v), (160, uu), (161, uu)], fr := [(10, [])], hp := [], out := [] }) := by
  cbv
  rw [h0]
  cbv
  rw [h1]
  cbv
  rw [h2]
  cbv
  rw [h3]
  cbv
  rw [h4]
  cbv
  rw [h5]
  cbv
  rw [h6]
  cbv
  rw [h7]
  cbv
  rw [h8]
  cbv
theorem it8kEtA_3 (F : Fns) (fns) (G : GT) (W : WT) (B : BT) (t w : List UInt8) (i k k2 : Int) (v al : Bool) (rows : List (List PV))  (x0 : UInt8) (h0 : F Fn.cmp BinOp.lss k (Int.ofNat (F Fn.slen t)) = true) (h1 : F Fn.cmp BinOp.leq 0 k = true) (h2 : F Fn.sget t (F Fn.toN k) = some x0) (h3 : G LT = true) (h4 : W (Int.ofNat ↑x0.toBitVec.toFin) LT = false) (h5 : F Fn.cmp BinOp.leq 0 k = true) (h6 : F Fn.sget t (F Fn.toN k) = some x0) (h7 : G DG = true) (h8 : W (Int.ofNat ↑x0.toBitVec.toFin) DG = true) (h9 : F Fn.cmp BinOp.leq 0 k = true) (h10 : F Fn.sget t (F Fn.toN k) = some x0) (h11 : G DG = true) : EV F fns G W B n2 ⟨0, 0⟩ b8k { env := [(0, zs t), (5, zn), (6, zi i), (7, zi k), (8, zb true), (16, zs t), (44, uu), (60, uu), (63, zi i), (86, zb v), (160, uu), (161, uu)], fr := [(10, [])], hp := [], out := [] } = some (Ex.normal, { env := [(0, zs t), (5, zn), (6, zi i), (7, SV.p (PV.int IntKind.i64 (F Fn.ar BinOp.add IntKind.i64 k 1))), (8, SV.p (PV.bool (true))), (16, zs t), (44, uu), (60, uu), (63, zi i), (86, SV.p (PV.bool (true))), (160, uu), (161, uu)], fr := [(10, [])], hp := [], out := [] }) := by
  cbv
  rw [h0]
  cbv
  rw [h1]
  cbv
  rw [h2]
  cbv
  rw [h3]
  cbv
  rw [h4]
  cbv
  rw [h5]
  cbv
  rw [h6]
  cbv
  rw [h7]
  cbv
  rw [h8]
  cbv
  rw [h9]
  cbv
  rw [h10]
  cbv
  rw [h11]
  cbv
  rw [h8]
theorem it8kEfA_0 (F : Fns) (fns) (G : GT) (W : WT) (B : BT) (t w : List UInt8) (i k k2 : Int) (v al : Bool) (rows : List (List PV))   (h0 : F Fn.cmp BinOp.lss k (Int.ofNat (F Fn.slen t)) = false) : EV F fns G W B n2 ⟨0, 0⟩ b8k { env := [(0, zs t), (5, zn), (6, zi i), (7, zi k), (8, zb false), (16, zs t), (44, uu), (60, uu), (63, zi i), (86, zb v), (160, uu), (161, uu)], fr := [(10, [])], hp := [], out := [] } = some (Ex.exit 2, { env := [(0, zs t), (5, zn), (6, zi i), (7, zi k), (8, zb false), (16, zs t), (44, uu), (60, uu), (63, zi i), (79, zb false), (86, zb v), (160, uu), (161, uu)], fr := [(10, [])], hp := [], out := [] }) := by
  cbv
  rw [h0]
  cbv
theorem it8kEfA_1 (F : Fns) (fns) (G : GT) (W : WT) (B : BT) (t w : List UInt8) (i k k2 : Int) (v al : Bool) (rows : List (List PV))  (x0 : UInt8) (h0 : F Fn.cmp BinOp.lss k (Int.ofNat (F Fn.slen t)) = true) (h1 : F Fn.cmp BinOp.leq 0 k = true) (h2 : F Fn.sget t (F Fn.toN k) = some x0) (h3 : G LT = true) (h4 : W (Int.ofNat ↑x0.toBitVec.toFin) LT = true) : EV F fns G W B n2 ⟨0, 0⟩ b8k { env := [(0, zs t), (5, zn), (6, zi i), (7, zi k), (8, zb false), (16, zs t), (44, uu), (60, uu), (63, zi i), (86, zb v), (160, uu), (161, uu)], fr := [(10, [])], hp := [], out := [] } = some (Ex.normal, { env := [(0, zs t), (5, zn), (6, zi i), (7, SV.p (PV.int IntKind.i64 (F Fn.ar BinOp.add IntKind.i64 k 1))), (8, zb false), (16, zs t), (44, uu), (60, uu), (63, zi i), (86, zb false), (160, uu), (161, uu)], fr := [(10, [])], hp := [], out := [] }) := by
  cbv
  rw [h0]
  cbv
  rw [h1]
  cbv
  rw [h2]
  cbv
  rw [h3]
  cbv
  rw [h4]
  cbv
theorem it8kEfA_2 (F : Fns) (fns) (G : GT) (W : WT) (B : BT) (t w : List UInt8) (i k k2 : Int) (v al : Bool) (rows : List (List PV))  (x0 : UInt8) (h0 : F Fn.cmp BinOp.lss k (Int.ofNat (F Fn.slen t)) = true) (h1 : F Fn.cmp BinOp.leq 0 k = true) (h2 : F Fn.sget t (F Fn.toN k) = some x0) (h3 : G LT = true) (h4 : W (Int.ofNat ↑x0.toBitVec.toFin) LT = false) (h5 : F Fn.cmp BinOp.leq 0 k = true) (h6 : F Fn.sget t (F Fn.toN k) = some x0) (h7 : G DG = true) (h8 : W (Int.ofNat ↑x0.toBitVec.toFin) DG = true) : EV F fns G W B n2 ⟨0, 0⟩ b8k { env := [(0, zs t), (5, zn), (6, zi i), (7, zi k), (8, zb false), (16, zs t), (44, uu), (60, uu), (63, zi i), (86, zb v), (160, uu), (161, uu)], fr := [(10, [])], hp := [], out := [] } = some (Ex.normal, { env := [(0, zs t), (5, zn), (6, zi i), (7, SV.p (PV.int IntKind.i64 (F Fn.ar BinOp.add IntKind.i64 k 1))), (8, zb false), (16, zs t), (44, uu), (60, uu), (63, zi i), (86, zb false), (160, uu), (161, uu)], fr := [(10, [])], hp := [], out := [] }) := by
  cbv
  rw [h0]
  cbv
  rw [h1]
  cbv
  rw [h2]
  cbv
  rw [h3]
  cbv
  rw [h4]
  cbv
  rw [h5]
  cbv
  rw [h6]
  cbv
  rw [h7]
  cbv
  rw [h8]
  cbv
theorem it8kEfA_3 (F : Fns) (fns) (G : GT) (W : WT) (B : BT) (t w : List UInt8) (i k k2 : Int) (v al : Bool) (rows : List (List PV))  (x0 : UInt8) (h0 : F Fn.cmp BinOp.lss k (Int.ofNat (F Fn.slen t)) = true) (h1 : F Fn.cmp BinOp.leq 0 k = true) (h2 : F Fn.sget t (F Fn.toN k) = some x0) (h3 : G LT = true) (h4 : W (Int.ofNat ↑x0.toBitVec.toFin) LT = false) (h5 : F Fn.cmp BinOp.leq 0 k = true) (h6 : F Fn.sget t (F Fn.toN k) = some x0) (h7 : G DG = true) (h8 : W (Int.ofNat ↑x0.toBitVec.toFin) DG = false) : EV F fns G W B n2 ⟨0, 0⟩ b8k { env := [(0, zs t), (5, zn), (6, zi i), (7, zi k), (8, zb false), (16, zs t), (44, uu), (60, uu), (63, zi i), (86, zb v), (160, uu), (161, uu)], fr := [(10, [])], hp := [], out := [] } = some (Ex.exit 2, { env := [(0, zs t), (5, zn), (6, zi i), (7, zi k), (8, zb false), (16, zs t), (44, uu), (60, uu), (63, zi i), (79, zb false), (86, zb v), (160, uu), (161, uu)], fr := [(10, [])], hp := [], out := [] }) := by
  cbv
  rw [h0]
  cbv
  rw [h1]
  cbv
  rw [h2]
  cbv
  rw [h3]
  cbv
  rw [h4]
  cbv
  rw [h5]
  cbv
  rw [h6]
  cbv
  rw [h7]
  cbv
  rw [h8]
  cbv
theorem w5DA_0 (F : Fns) (fns) (G : GT) (W : WT) (B : BT)  (Lp : LPT) (t w : List UInt8) (i k k2 : Int) (v al : Bool) (rows : List (List PV))   (h0 : Lp b8k { env := [(0, zs t), (5, zn), (6, zi i), (7, zi i), (8, zb true), (16, zs t), (44, uu), (60, uu), (63, zi i), (86, uu), (160, uu), (161, uu)], fr := [(10, [])], hp := [], out := [] } = some (Ex.exit 2, { env := [(0, zs t), (5, zn), (6, zi i), (7, zi k), (8, zb al), (16, zs t), (44, uu), (60, uu), (63, zi i), (79, zb false), (86, uu), (160, uu), (161, uu)], fr := [(10, [])], hp := [], out := [] })) : EV F fns G W B Lp ⟨0, 0⟩ c8_5 { env := [(0, zs t), (5, zn), (6, zi i), (7, zi i), (8, zb true), (16, zs t), (44, uu), (60, uu), (63, zi i), (86, uu), (160, uu), (161, uu)], fr := [(10, [])], hp := [], out := [] } = some (Ex.normal, { env := [(0, zs t), (5, zn), (6, zi i), (7, zi k), (8, zb al), (16, zs t), (44, uu), (60, uu), (63, zi i), (79, zb false), (86, uu), (160, uu), (161, uu)], fr := [(10, [])], hp := [], out := [] }) := by
  cbv
  rw [h0]
  cbv
theorem w6DA_0 (F : Fns) (fns) (G : GT) (W : WT) (B : BT)  (Lp : LPT) (t w : List UInt8) (i k k2 : Int) (v al : Bool) (rows : List (List PV))   (h0 : F Fn.cmp BinOp.leq 0 k = true) (h1 : F Fn.cmp BinOp.leq 0 i = true) (h2 : F Fn.le (F Fn.toN i) (F Fn.toN k) = true) (h3 : F Fn.le (F Fn.toN k) (F Fn.slen t) = true) : EV F fns G W B Lp ⟨0, 0⟩ c8_6 { env := [(0, zs t), (5, zn), (6, zi i), (7, zi k), (8, zb al), (16, zs t), (44, uu), (60, uu), (63, zi i), (79, zb false), (86, uu), (160, uu), (161, uu)], fr := [(10, [])], hp := [], out := [] } = some (Ex.normal, { env := [(0, zs t), (5, zn), (6, zi i), (7, zi k), (8, zb al), (9, SV.p (PV.str (F Fn.scut t (F Fn.toN i) (F Fn.toN k)))), (16, zs t), (44, uu), (60, uu), (63, zi i), (86, uu), (160, uu), (161, uu)], fr := [(10, [])], hp := [], out := [] }) := by
  cbv
  rw [h0]
  cbv
  rw [h1]
  cbv
  rw [h2]
  cbv
  rw [h3]
  cbv
theorem w5EA_0 (F : Fns) (fns) (G : GT) (W : WT) (B : BT)  (Lp : LPT) (t w : List UInt8) (i k k2 : Int) (v al : Bool) (rows : List (List PV))   (h0 : Lp b8k { env := [(0, zs t), (5, zn), (6, zi i), (7, zi i), (8, zb true), (16, zs t), (44, uu), (60, uu), (63, zi i), (86, uu), (160, uu), (161, uu)], fr := [(10, [])], hp := [], out := [] } = some (Ex.exit 2, { env := [(0, zs t), (5, zn), (6, zi i), (7, zi k), (8, zb al), (16, zs t), (44, uu), (60, uu), (63, zi i), (79, zb false), (86, zb v), (160, uu), (161, uu)], fr := [(10, [])], hp := [], out := [] })) : EV F fns G W B Lp ⟨0, 0⟩ c8_5 { env := [(0, zs t), (5, zn), (6, zi i), (7, zi i), (8, zb true), (16, zs t), (44, uu), (60, uu), (63, zi i), (86, uu), (160, uu), (161, uu)], fr := [(10, [])], hp := [], out := [] } = some (Ex.normal, { env := [(0, zs t), (5, zn), (6, zi i), (7, zi k), (8, zb al), (16, zs t), (44, uu), (60, uu), (63, zi i), (79, zb false), (86, zb v), (160, uu), (161, uu)], fr := [(10, [])], hp := [], out := [] }) := by
  cbv
  rw [h0]
  cbv
theorem w6EA_0 (F : Fns) (fns) (G : GT) (W : WT) (B : BT)  (Lp : LPT) (t w : List UInt8) (i k k2 : Int) (v al : Bool) (rows : List (List PV))   (h0 : F Fn.cmp BinOp.leq 0 k = true) (h1 : F Fn.cmp BinOp.leq 0 i = true) (h2 : F Fn.le (F Fn.toN i) (F Fn.toN k) = true) (h3 : F Fn.le (F Fn.toN k) (F Fn.slen t) = true) : EV F fns G W B Lp ⟨0, 0⟩ c8_6 { env := [(0, zs t), (5, zn), (6, zi i), (7, zi k), (8, zb al), (16, zs t), (44, uu), (60, uu), (63, zi i), (79, zb false), (86, zb v), (160, uu), (161, uu)], fr := [(10, [])], hp := [], out := [] } = some (Ex.normal, { env := [(0, zs t), (5, zn), (6, zi i), (7, zi k), (8, zb al), (9, SV.p (PV.str (F Fn.scut t (F Fn.toN i) (F Fn.toN k)))), (16, zs t), (44, uu), (60, uu), (63, zi i), (86, zb v), (160, uu), (161, uu)], fr := [(10, [])], hp := [], out := [] }) := by
  cbv
  rw [h0]
  cbv
  rw [h1]
  cbv
  rw [h2]
  cbv
  rw [h3]
  cbv
theorem w7DA_0 (F : Fns) (fns) (G : GT) (W : WT) (B : BT)  (Lp : LPT) (t w : List UInt8) (i k k2 : Int) (v al : Bool) (rows : List (List PV))   (h0 : F Fn.cmp BinOp.eql (Int.ofNat (F Fn.slen w)) 0 = true) : EV F fns G W B Lp ⟨0, 0⟩ c8_7 { env := [(0, zs t), (5, zn), (6, zi i), (7, zi k), (8, zb al), (9, zs w), (16, zs t), (44, uu), (60, uu), (63, zi i), (86, uu), (160, uu), (161, uu)], fr := [(10, [])], hp := [], out := [] } = some (Ex.ret, { env := [(2, zn), (3, zi i), (4, zi 20), (5, zn), (6, zi i), (7, zi k), (44, uu), (60, uu), (63, zi i), (123, zi i), (135, uu), (160, uu), (161, uu), (162, uu)], fr := [(10, [])], hp := [], out := [] }) := by
  cbv
  rw [h0]
  cbv
theorem w7tA_0 (F : Fns) (fns) (G : GT) (W : WT) (B : BT)  (Lp : LPT) (t w : List UInt8) (i k k2 : Int) (v al : Bool) (rows : List (List PV))   (h0 : F Fn.cmp BinOp.eql (Int.ofNat (F Fn.slen w)) 0 = false) (h1 : F Fn.cmp BinOp.gtr (Int.ofNat (F Fn.slen w)) 1 = false) : EV F fns G W B Lp ⟨0, 0⟩ c8_7 { env := [(0, zs t), (5, zn), (6, zi i), (7, zi k), (8, zb true), (9, zs w), (16, zs t), (44, uu), (60, uu), (63, zi i), (86, zb v), (160, uu), (161, uu)], fr := [(10, [])], hp := [], out := [] } = some (Ex.normal, { env := [(0, zs t), (5, zn), (6, zi i), (7, zi k), (8, zb true), (9, zs w), (16, zs t), (44, uu), (60, uu), (63, zi i), (86, zb v), (122, zb false), (160, uu), (161, uu)], fr := [(10, [])], hp := [], out := [] }) := by
  cbv
  rw [h0]
  cbv
  rw [h1]
  cbv
theorem w7tA_1 (F : Fns) (fns) (G : GT) (W : WT) (B : BT)  (Lp : LPT) (t w : List UInt8) (i k k2 : Int) (v al : Bool) (rows : List (List PV))   (h0 : F Fn.cmp BinOp.eql (Int.ofNat (F Fn.slen w)) 0 = false) (h1 : F Fn.cmp BinOp.gtr (Int.ofNat (F Fn.slen w)) 1 = true) (h2 : F Fn.cmp BinOp.lss (Int.ofNat (F Fn.slen w)) 7 = false) : EV F fns G W B Lp ⟨0, 0⟩ c8_7 { env := [(0, zs t), (5, zn), (6, zi i), (7, zi k), (8, zb true), (9, zs w), (16, zs t), (44, uu), (60, uu), (63, zi i), (86, zb v), (160, uu), (161, uu)], fr := [(10, [])], hp := [], out := [] } = some (Ex.normal, { env := [(0, zs t), (5, zn), (6, zi i), (7, zi k), (8, zb true), (9, zs w), (16, zs t), (44, uu), (60, uu), (63, zi i), (86, zb v), (122, zb false), (160, uu), (161, uu)], fr := [(10, [])], hp := [], out := [] }) := by
  cbv
  rw [h0]
  cbv
  rw [h1]
  cbv
  rw [h2]
  cbv
theorem w7tA_2 (F : Fns) (fns) (G : GT) (W : WT) (B : BT)  (Lp : LPT) (t w : List UInt8) (i k k2 : Int) (v al : Bool) (rows : List (List PV))  (x0 : UInt8) (h0 : F Fn.cmp BinOp.eql (Int.ofNat (F Fn.slen w)) 0 = false) (h1 : F Fn.cmp BinOp.gtr (Int.ofNat (F Fn.slen w)) 1 = true) (h2 : F Fn.cmp BinOp.lss (Int.ofNat (F Fn.slen w)) 7 = true) (h3 : F Fn.cmp BinOp.leq 0 0 = true) (h4 : F Fn.sget w (F Fn.toN 0) = some x0) (h5 : F Fn.cmp BinOp.eql (Int.ofNat x0.1.1.1) 48 = true) : EV F fns G W B Lp ⟨0, 0⟩ c8_7 { env := [(0, zs t), (5, zn), (6, zi i), (7, zi k), (8, zb true), (9, zs w), (16, zs t), (44, uu), (60, uu), (63, zi i), (86, zb v), (160, uu), (161, uu)], fr := [(10, [])], hp := [], out := [] } = some (Ex.ret, { env := [(2, zn), (3, zi i), (4, zi 20), (5, zn), (6, zi i), (7, zi k), (44, uu), (60, uu), (63, zi i), (123, zi i), (135, uu), (160, uu), (161, uu), (162, uu)], fr := [(10, [])], hp := [], out := [] }) := by
  cbv
  rw [h0]
  cbv
  rw [h1]
  cbv
  rw [h2]
  cbv
  rw [h3]
  cbv
  rw [h4]
  cbv
  rw [h5]
  cbv
theorem w7tA_3 (F : Fns) (fns) (G : GT) (W : WT) (B : BT)  (Lp : LPT) (t w : List UInt8) (i k k2 : Int) (v al : Bool) (rows : List (List PV))  (x0 : UInt8) (h0 : F Fn.cmp BinOp.eql (Int.ofNat (F Fn.slen w)) 0 = false) (h1 : F Fn.cmp BinOp.gtr (Int.ofNat (F Fn.slen w)) 1 = true) (h2 : F Fn.cmp BinOp.lss (Int.ofNat (F Fn.slen w)) 7 = true) (h3 : F Fn.cmp BinOp.leq 0 0 = true) (h4 : F Fn.sget w (F Fn.toN 0) = some x0) (h5 : F Fn.cmp BinOp.eql (Int.ofNat x0.1.1.1) 48 = false) : EV F fns G W B Lp ⟨0, 0⟩ c8_7 { env := [(0, zs t), (5, zn), (6, zi i), (7, zi k), (8, zb true), (9, zs w), (16, zs t), (44, uu), (60, uu), (63, zi i), (86, zb v), (160, uu), (161, uu)], fr := [(10, [])], hp := [], out := [] } = some (Ex.normal, { env := [(0, zs t), (5, zn), (6, zi i), (7, zi k), (8, zb true), (9, zs w), (16, zs t), (44, uu), (60, uu), (63, zi i), (86, zb v), (122, zb false), (160, uu), (161, uu)], fr := [(10, [])], hp := [], out := [] }) := by
  cbv
  rw [h0]
  cbv
  rw [h1]
  cbv
  rw [h2]
  cbv
  rw [h3]
  cbv
  rw [h4]
  cbv
  rw [h5]
  cbv
theorem w8tA_0 (F : Fns) (fns) (G : GT) (W : WT) (B : BT)  (Lp : LPT) (t w : List UInt8) (i k k2 : Int) (v al : Bool) (rows : List (List PV))   (h0 : F Fn.cmp BinOp.gtr (Int.ofNat (F Fn.slen w)) 6 = true) : EV F fns G W B Lp ⟨0, 0⟩ c8_8 { env := [(0, zs t), (5, zn), (6, zi i), (7, zi k), (8, zb true), (9, zs w), (16, zs t), (44, uu), (60, uu), (63, zi i), (86, zb v), (122, zb false), (160, uu), (161, uu)], fr := [(10, [])], hp := [], out := [] } = some (Ex.ret, { env := [(2, zn), (3, zi i), (4, zi 6), (5, zn), (6, zi i), (7, zi k), (44, uu), (60, uu), (63, zi i), (123, uu), (135, zi i), (160, uu), (161, uu), (162, uu)], fr := [(10, [])], hp := [], out := [] }) := by
  cbv
  rw [h0]
  cbv
theorem w8tA_1 (F : Fns) (fns) (G : GT) (W : WT) (B : BT)  (Lp : LPT) (t w : List UInt8) (i k k2 : Int) (v al : Bool) (rows : List (List PV))   (h0 : F Fn.cmp BinOp.gtr (Int.ofNat (F Fn.slen w)) 6 = false) (h1 : F Fn.cmp BinOp.gtr (Int.ofNat (F Fn.slen w)) 16 = true) : EV F fns G W B Lp ⟨0, 0⟩ c8_8 { env := [(0, zs t), (5, zn), (6, zi i), (7, zi k), (8, zb true), (9, zs w), (16, zs t), (44, uu), (60, uu), (63, zi i), (86, zb v), (122, zb false), (160, uu), (161, uu)], fr := [(10, [])], hp := [], out := [] } = some (Ex.ret, { env := [(2, zn), (3, zi i), (4, zi 6), (5, zn), (6, zi i), (7, zi k), (44, uu), (60, uu), (63, zi i), (123, uu), (135, zi i), (160, uu), (161, uu), (162, uu)], fr := [(10, [])], hp := [], out := [] }) := by
  cbv
  rw [h0]
  cbv
  rw [h1]
  cbv
theorem w8tA_2 (F : Fns) (fns) (G : GT) (W : WT) (B : BT)  (Lp : LPT) (t w : List UInt8) (i k k2 : Int) (v al : Bool) (rows : List (List PV))   (h0 : F Fn.cmp BinOp.gtr (Int.ofNat (F Fn.slen w)) 6 = false) (h1 : F Fn.cmp BinOp.gtr (Int.ofNat (F Fn.slen w)) 16 = false) : EV F fns G W B Lp ⟨0, 0⟩ c8_8 { env := [(0, zs t), (5, zn), (6, zi i), (7, zi k), (8, zb true), (9, zs w), (16, zs t), (44, uu), (60, uu), (63, zi i), (86, zb v), (122, zb false), (160, uu), (161, uu)], fr := [(10, [])], hp := [], out := [] } = some (Ex.normal, { env := [(0, zs t), (5, zn), (6, zi i), (7, zi k), (8, zb true), (9, zs w), (16, zs t), (44, uu), (60, uu), (63, zi i), (86, zb v), (134, zb false), (160, uu), (161, uu)], fr := [(10, [])], hp := [], out := [] }) := by
  cbv
  rw [h0]
  cbv
  rw [h1]
  cbv
theorem w9tA_0 (F : Fns) (fns) (G : GT) (W : WT) (B : BT)  (Lp : LPT) (t w : List UInt8) (i k k2 : Int) (v al : Bool) (rows : List (List PV))    : EV F fns G W B Lp ⟨0, 0⟩ c8_9 { env := [(0, zs t), (5, zn), (6, zi i), (7, zi k), (8, zb true), (9, zs w), (16, zs t), (44, uu), (60, uu), (63, zi i), (86, zb v), (134, zb false), (160, uu), (161, uu)], fr := [(10, [])], hp := [], out := [] } = some (Ex.normal, { env := [(0, zs t), (5, zn), (6, zi i), (7, zi k), (8, zb true), (9, zs w), (10, SV.ptr { root := Root.st 0 10, off := 0, row := none }), (16, zs t), (44, uu), (60, uu), (63, zi i), (86, zb v), (160, uu), (161, uu)], fr := [(10, [zi 1, zs w, zi 0, zi i])], hp := [], out := [] }) := by
  cbv
theorem w10tA_0 (F : Fns) (fns) (G : GT) (W : WT) (B : BT)  (Lp : LPT) (t w : List UInt8) (i k k2 : Int) (v al : Bool) (rows : List (List PV)) (n j : Int)   (h0 : Lp b8j { env := [(0, zs t), (5, zn), (6, zi i), (7, zi k), (9, zs w), (10, SV.ptr { root := Root.st 0 10, off := 0, row := none }), (11, zi 0), (16, zs t), (44, uu), (60, uu), (63, zi i), (160, uu), (161, uu)], fr := [(10, [zi 2, zs w, zi 0, zi i])], hp := [], out := [] } = some (Ex.exit 4, { env := [(0, zs t), (5, zn), (6, zi i), (7, zi k), (9, zs w), (10, SV.ptr { root := Root.st 0 10, off := 0, row := none }), (11, zi j), (16, zs t), (44, uu), (60, uu), (63, zi i), (144, zb false), (160, uu), (161, uu)], fr := [(10, [zi 2, zs w, zi n, zi i])], hp := [], out := [] })) : EV F fns G W B Lp ⟨0, 0⟩ c8_10 { env := [(0, zs t), (5, zn), (6, zi i), (7, zi k), (8, zb true), (9, zs w), (10, SV.ptr { root := Root.st 0 10, off := 0, row := none }), (16, zs t), (44, uu), (60, uu), (63, zi i), (86, zb v), (160, uu), (161, uu)], fr := [(10, [zi 1, zs w, zi 0, zi i])], hp := [], out := [] } = some (Ex.normal, { env := [(0, zs t), (5, zn), (6, zi i), (7, zi k), (9, zs w), (10, SV.ptr { root := Root.st 0 10, off := 0, row := none }), (11, zi j), (16, zs t), (44, uu), (60, uu), (63, zi i), (144, zb false), (160, uu), (161, uu)], fr := [(10, [zi 2, zs w, zi n, zi i])], hp := [], out := [] }) := by
  cbv
  rw [h0]
  cbv
theorem w7fA_0 (F : Fns) (fns) (G : GT) (W : WT) (B : BT)  (Lp : LPT) (t w : List UInt8) (i k k2 : Int) (v al : Bool) (rows : List (List PV))  (x0 : UInt8) (h0 : F Fn.cmp BinOp.eql (Int.ofNat (F Fn.slen w)) 0 = false) (h1 : F Fn.cmp BinOp.leq 0 0 = true) (h2 : F Fn.sget w (F Fn.toN 0) = some x0) (h3 : G DG = true) (h4 : W (Int.ofNat ↑x0.toBitVec.toFin) DG = true) : EV F fns G W B Lp ⟨0, 0⟩ c8_7 { env := [(0, zs t), (5, zn), (6, zi i), (7, zi k), (8, zb false), (9, zs w), (16, zs t), (44, uu), (60, uu), (63, zi i), (86, zb v), (160, uu), (161, uu)], fr := [(10, [])], hp := [], out := [] } = some (Ex.ret, { env := [(2, zn), (3, zi i), (4, zi 20), (5, zn), (6, zi i), (7, zi k), (44, uu), (60, uu), (63, zi i), (123, zi i), (135, uu), (160, uu), (161, uu), (162, uu)], fr := [(10, [])], hp := [], out := [] }) := by
  cbv
  rw [h0]
  cbv
  rw [h1]
  cbv
  rw [h2]
  cbv
  rw [h3]
  cbv
  rw [h4]
  cbv
theorem w7fA_1 (F : Fns) (fns) (G : GT) (W : WT) (B : BT)  (Lp : LPT) (t w : List UInt8) (i k k2 : Int) (v al : Bool) (rows : List (List PV))  (x0 : UInt8) (h0 : F Fn.cmp BinOp.eql (Int.ofNat (F Fn.slen w)) 0 = false) (h1 : F Fn.cmp BinOp.leq 0 0 = true) (h2 : F Fn.sget w (F Fn.toN 0) = some x0) (h3 : G DG = true) (h4 : W (Int.ofNat ↑x0.toBitVec.toFin) DG = false) : EV F fns G W B Lp ⟨0, 0⟩ c8_7 { env := [(0, zs t), (5, zn), (6, zi i), (7, zi k), (8, zb false), (9, zs w), (16, zs t), (44, uu), (60, uu), (63, zi i), (86, zb v), (160, uu), (161, uu)], fr := [(10, [])], hp := [], out := [] } = some (Ex.normal, { env := [(0, zs t), (5, zn), (6, zi i), (7, zi k), (8, zb false), (9, zs w), (16, zs t), (44, uu), (60, uu), (63, zi i), (86, zb v), (122, zb false), (160, uu), (161, uu)], fr := [(10, [])], hp := [], out := [] }) := by
  cbv
  rw [h0]
  cbv
  rw [h1]
  cbv
  rw [h2]
  cbv
  rw [h3]
  cbv
  rw [h4]
  cbv
theorem w8fA_0 (F : Fns) (fns) (G : GT) (W : WT) (B : BT)  (Lp : LPT) (t w : List UInt8) (i k k2 : Int) (v al : Bool) (rows : List (List PV))   (h0 : F Fn.cmp BinOp.gtr (Int.ofNat (F Fn.slen w)) 16 = true) : EV F fns G W B Lp ⟨0, 0⟩ c8_8 { env := [(0, zs t), (5, zn), (6, zi i), (7, zi k), (8, zb false), (9, zs w), (16, zs t), (44, uu), (60, uu), (63, zi i), (86, zb v), (122, zb false), (160, uu), (161, uu)], fr := [(10, [])], hp := [], out := [] } = some (Ex.ret, { env := [(2, zn), (3, zi i), (4, zi 6), (5, zn), (6, zi i), (7, zi k), (44, uu), (60, uu), (63, zi i), (123, uu), (135, zi i), (160, uu), (161, uu), (162, uu)], fr := [(10, [])], hp := [], out := [] }) := by
  cbv
  rw [h0]
  cbv
theorem w8fA_1 (F : Fns) (fns) (G : GT) (W : WT) (B : BT)  (Lp : LPT) (t w : List UInt8) (i k k2 : Int) (v al : Bool) (rows : List (List PV))   (h0 : F Fn.cmp BinOp.gtr (Int.ofNat (F Fn.slen w)) 16 = false) : EV F fns G W B Lp ⟨0, 0⟩ c8_8 { env := [(0, zs t), (5, zn), (6, zi i), (7, zi k), (8, zb false), (9, zs w), (16, zs t), (44, uu), (60, uu), (63, zi i), (86, zb v), (122, zb false), (160, uu), (161, uu)], fr := [(10, [])], hp := [], out := [] } = some (Ex.normal, { env := [(0, zs t), (5, zn), (6, zi i), (7, zi k), (8, zb false), (9, zs w), (16, zs t), (44, uu), (60, uu), (63, zi i), (86, zb v), (134, zb false), (160, uu), (161, uu)], fr := [(10, [])], hp := [], out := [] }) := by
  cbv
  rw [h0]
  cbv
theorem w9fA_0 (F : Fns) (fns) (G : GT) (W : WT) (B : BT)  (Lp : LPT) (t w : List UInt8) (i k k2 : Int) (v al : Bool) (rows : List (List PV))    : EV F fns G W B Lp ⟨0, 0⟩ c8_9 { env := [(0, zs t), (5, zn), (6, zi i), (7, zi k), (8, zb false), (9, zs w), (16, zs t), (44, uu), (60, uu), (63, zi i), (86, zb v), (134, zb false), (160, uu), (161, uu)], fr := [(10, [])], hp := [], out := [] } = some (Ex.normal, { env := [(0, zs t), (5, zn), (6, zi i), (7, zi k), (8, zb false), (9, zs w), (10, SV.ptr { root := Root.st 0 10, off := 0, row := none }), (16, zs t), (44, uu), (60, uu), (63, zi i), (86, zb v), (160, uu), (161, uu)], fr := [(10, [zi 1, zs w, zi 0, zi i])], hp := [], out := [] }) := by
  cbv
theorem w10fA_0 (F : Fns) (fns) (G : GT) (W : WT) (B : BT)  (Lp : LPT) (t w : List UInt8) (i k k2 : Int) (v al : Bool) (rows : List (List PV)) (n j : Int)    : EV F fns G W B Lp ⟨0, 0⟩ c8_10 { env := [(0, zs t), (5, zn), (6, zi i), (7, zi k), (8, zb false), (9, zs w), (10, SV.ptr { root := Root.st 0 10, off := 0, row := none }), (16, zs t), (44, uu), (60, uu), (63, zi i), (86, zb v), (160, uu), (161, uu)], fr := [(10, [zi 1, zs w, zi 0, zi i])], hp := [], out := [] } = some (Ex.normal, { env := [(0, zs t), (5, zn), (6, zi i), (7, zi k), (8, zb false), (9, zs w), (10, SV.ptr { root := Root.st 0 10, off := 0, row := none }), (16, zs t), (44, uu), (60, uu), (63, zi i), (86, zb v), (139, zb false), (160, uu), (161, uu)], fr := [(10, [zi 1, zs w, zi 0, zi i])], hp := [], out := [] }) := by
  cbv
theorem it8jA_0 (F : Fns) (fns) (G : GT) (W : WT) (B : BT) (t w : List UInt8) (i k k2 : Int) (v al : Bool) (rows : List (List PV)) (n j : Int)   (h0 : F Fn.cmp BinOp.lss j (Int.ofNat (F Fn.slen w)) = false) : EV F fns G W B n2 ⟨0, 0⟩ b8j { env := [(0, zs t), (5, zn), (6, zi i), (7, zi k), (9, zs w), (10, SV.ptr { root := Root.st 0 10, off := 0, row := none }), (11, zi j), (16, zs t), (44, uu), (60, uu), (63, zi i), (160, uu), (161, uu)], fr := [(10, [zi 2, zs w, zi n, zi i])], hp := [], out := [] } = some (Ex.exit 4, { env := [(0, zs t), (5, zn), (6, zi i), (7, zi k), (9, zs w), (10, SV.ptr { root := Root.st 0 10, off := 0, row := none }), (11, zi j), (16, zs t), (44, uu), (60, uu), (63, zi i), (144, zb false), (160, uu), (161, uu)], fr := [(10, [zi 2, zs w, zi n, zi i])], hp := [], out := [] }) := by
  cbv
  rw [h0]
  cbv
theorem it8jA_1 (F : Fns) (fns) (G : GT) (W : WT) (B : BT) (t w : List UInt8) (i k k2 : Int) (v al : Bool) (rows : List (List PV)) (n j : Int)  (x0 : UInt8) (h0 : F Fn.cmp BinOp.lss j (Int.ofNat (F Fn.slen w)) = true) (h1 : F Fn.cmp BinOp.leq 0 j = true) (h2 : F Fn.sget w (F Fn.toN j) = some x0) : EV F fns G W B n2 ⟨0, 0⟩ b8j { env := [(0, zs t), (5, zn), (6, zi i), (7, zi k), (9, zs w), (10, SV.ptr { root := Root.st 0 10, off := 0, row := none }), (11, zi j), (16, zs t), (44, uu), (60, uu), (63, zi i), (160, uu), (161, uu)], fr := [(10, [zi 2, zs w, zi n, zi i])], hp := [], out := [] } = some (Ex.normal, { env := [(0, zs t), (5, zn), (6, zi i), (7, zi k), (9, zs w), (10, SV.ptr { root := Root.st 0 10, off := 0, row := none }), (11, SV.p (PV.int IntKind.i64 (F Fn.ar BinOp.add IntKind.i64 j 1))), (16, zs t), (44, uu), (60, uu), (63, zi i), (160, uu), (161, uu)], fr := [(10, [zi 2, zs w, SV.p (PV.int IntKind.i64 (F Fn.ar BinOp.sub IntKind.i64 (F Fn.ar BinOp.add IntKind.i64 (F Fn.ar BinOp.mul IntKind.i64 n 10) (F Fn.wrap IntKind.i64 (Int.ofNat x0.1.1.1))) 48)), zi i])], hp := [], out := [] }) := by
  cbv
  rw [h0]
  cbv
  rw [h1]
  cbv
  rw [h2]
  cbv
theorem w11tA_0 (F : Fns) (fns) (G : GT) (W : WT) (B : BT)  (Lp : LPT) (t w : List UInt8) (i k k2 : Int) (v al : Bool) (rows : List (List PV)) (n j : Int)   (h0 : F Fn.le (F Fn.add 0 (F Fn.rlen [[PV.int IntKind.i64 2, PV.str w, PV.int IntKind.i64 n, PV.int IntKind.i64 i]])) (F Fn.rlen [[PV.int IntKind.i64 2, PV.str w, PV.int IntKind.i64 n, PV.int IntKind.i64 i]]) = true) (h1 : F Fn.lens 4 (F Fn.rpart [[PV.int IntKind.i64 2, PV.str w, PV.int IntKind.i64 n, PV.int IntKind.i64 i]] 0 (F Fn.rlen [[PV.int IntKind.i64 2, PV.str w, PV.int IntKind.i64 n, PV.int IntKind.i64 i]])) = true) (h2 : F Fn.emp (F Fn.rpart [[PV.int IntKind.i64 2, PV.str w, PV.int IntKind.i64 n, PV.int IntKind.i64 i]] 0 (F Fn.rlen [[PV.int IntKind.i64 2, PV.str w, PV.int IntKind.i64 n, PV.int IntKind.i64 i]])) = false) (h3 : F Fn.afit 0 (F Fn.rpart [[PV.int IntKind.i64 2, PV.str w, PV.int IntKind.i64 n, PV.int IntKind.i64 i]] 0 (F Fn.rlen [[PV.int IntKind.i64 2, PV.str w, PV.int IntKind.i64 n, PV.int IntKind.i64 i]])) 40 = true) : EV F fns G W B Lp ⟨0, 0⟩ c8_11 { env := [(0, zs t), (5, zn), (6, zi i), (7, zi k), (9, zs w), (10, SV.ptr { root := Root.st 0 10, off := 0, row := none }), (11, zi j), (16, zs t), (44, uu), (60, uu), (63, zi i), (144, zb false), (160, uu), (161, uu)], fr := [(10, [zi 2, zs w, zi n, zi i])], hp := [], out := [] } = some (Ex.normal, { env := [(0, zs t), (5, SV.own 4 (F Fn.rpart [[PV.int IntKind.i64 2, PV.str w, PV.int IntKind.i64 n, PV.int IntKind.i64 i]] 0 (F Fn.rlen [[PV.int IntKind.i64 2, PV.str w, PV.int IntKind.i64 n, PV.int IntKind.i64 i]]))), (6, zi i), (7, zi k), (16, zs t), (44, uu), (60, uu), (63, zi i), (160, uu), (161, uu)], fr := [(10, [])], hp := [], out := [] }) := by
  cbv
  rw [h0]
  cbv
  rw [h1]
  cbv
  rw [if_neg (by exact fun h => Bool.noConfusion (h2.symm.trans h))]
  cbv
  rw [h3]
  cbv
theorem w11fA_0 (F : Fns) (fns) (G : GT) (W : WT) (B : BT)  (Lp : LPT) (t w : List UInt8) (i k k2 : Int) (v al : Bool) (rows : List (List PV)) (n j : Int)   (h0 : F Fn.le (F Fn.add 0 (F Fn.rlen [[PV.int IntKind.i64 1, PV.str w, PV.int IntKind.i64 0, PV.int IntKind.i64 i]])) (F Fn.rlen [[PV.int IntKind.i64 1, PV.str w, PV.int IntKind.i64 0, PV.int IntKind.i64 i]]) = true) (h1 : F Fn.lens 4 (F Fn.rpart [[PV.int IntKind.i64 1, PV.str w, PV.int IntKind.i64 0, PV.int IntKind.i64 i]] 0 (F Fn.rlen [[PV.int IntKind.i64 1, PV.str w, PV.int IntKind.i64 0, PV.int IntKind.i64 i]])) = true) (h2 : F Fn.emp (F Fn.rpart [[PV.int IntKind.i64 1, PV.str w, PV.int IntKind.i64 0, PV.int IntKind.i64 i]] 0 (F Fn.rlen [[PV.int IntKind.i64 1, PV.str w, PV.int IntKind.i64 0, PV.int IntKind.i64 i]])) = false) (h3 : F Fn.afit 0 (F Fn.rpart [[PV.int IntKind.i64 1, PV.str w, PV.int IntKind.i64 0, PV.int IntKind.i64 i]] 0 (F Fn.rlen [[PV.int IntKind.i64 1, PV.str w, PV.int IntKind.i64 0, PV.int IntKind.i64 i]])) 40 = true) : EV F fns G W B Lp ⟨0, 0⟩ c8_11 { env := [(0, zs t), (5, zn), (6, zi i), (7, zi k), (8, zb false), (9, zs w), (10, SV.ptr { root := Root.st 0 10, off := 0, row := none }), (16, zs t), (44, uu), (60, uu), (63, zi i), (86, zb v), (139, zb false), (160, uu), (161, uu)], fr := [(10, [zi 1, zs w, zi 0, zi i])], hp := [], out := [] } = some (Ex.normal, { env := [(0, zs t), (5, SV.own 4 (F Fn.rpart [[PV.int IntKind.i64 1, PV.str w, PV.int IntKind.i64 0, PV.int IntKind.i64 i]] 0 (F Fn.rlen [[PV.int IntKind.i64 1, PV.str w, PV.int IntKind.i64 0, PV.int IntKind.i64 i]]))), (6, zi i), (7, zi k), (16, zs t), (44, uu), (60, uu), (63, zi i), (160, uu), (161, uu)], fr := [(10, [])], hp := [], out := [] }) := by
  cbv
  rw [h0]
  cbv
  rw [h1]
  cbv
  rw [if_neg (by exact fun h => Bool.noConfusion (h2.symm.trans h))]
  cbv
  rw [h3]
  cbv
theorem sem8xA_0 (F : Fns) (fns) (G : GT) (W : WT) (B : BT) (Lp : LPT) (s t : List UInt8) (i k k0 k1 k2 : Int) (rows : List (List PV))  (h0 : F Fn.cmp BinOp.gtr (Int.ofNat (F Fn.slen s)) 4096 = true) : @S.fnS (symA F) (T' fns (look (ps8 G W B))) n5 Lp ⟨0, 0⟩ vf8 [.p (.str s)] [] [] = some ((SV.tup [zn, zi 0, zi 6], [], []), []) := by
  cbv
  rw [h0]
  cbv
theorem sem8xA_1 (F : Fns) (fns) (G : GT) (W : WT) (B : BT) (Lp : LPT) (s t : List UInt8) (i k k0 k1 k2 : Int) (rows : List (List PV))  (h0 : F Fn.cmp BinOp.gtr (Int.ofNat (F Fn.slen s)) 4096 = false) (h1 : G s = true) (h2 : Lp b8 { env := [(0, SV.p (PV.str (B s))), (5, zn), (6, zi 0), (7, uu), (16, SV.p (PV.str (B s))), (44, uu), (60, uu), (63, uu), (160, uu), (161, uu)], fr := [(10, [])], hp := [], out := [] } = some (Ex.exit 0, { env := [(0, zs t), (5, zn), (6, zi i), (7, uu), (16, zs t), (20, zb false), (44, uu), (60, uu), (63, uu), (160, uu), (161, uu)], fr := [(10, [])], hp := [], out := [] })) : @S.fnS (symA F) (T' fns (look (ps8 G W B))) n5 Lp ⟨0, 0⟩ vf8 [.p (.str s)] [] [] = some ((SV.tup [zn, zi 0, zi 0], [], []), []) := by
  cbv
  rw [h0]
  cbv
  rw [h1]
  cbv
  rw [h2]
  cbv
theorem sem8yA_0 (F : Fns) (fns) (G : GT) (W : WT) (B : BT) (Lp : LPT) (s t : List UInt8) (i k k0 k1 k2 : Int) (rows : List (List PV))  (h0 : F Fn.cmp BinOp.gtr (Int.ofNat (F Fn.slen s)) 4096 = true) : @S.fnS (symA F) (T' fns (look (ps8 G W B))) n5 Lp ⟨0, 0⟩ vf8 [.p (.str s)] [] [] = some ((SV.tup [zn, zi 0, zi 6], [], []), []) := by
  cbv
  rw [h0]
  cbv
theorem sem8yA_1 (F : Fns) (fns) (G : GT) (W : WT) (B : BT) (Lp : LPT) (s t : List UInt8) (i k k0 k1 k2 : Int) (rows : List (List PV))  (h0 : F Fn.cmp BinOp.gtr (Int.ofNat (F Fn.slen s)) 4096 = false) (h1 : G s = true) (h2 : Lp b8 { env := [(0, SV.p (PV.str (B s))), (5, zn), (6, zi 0), (7, uu), (16, SV.p (PV.str (B s))), (44, uu), (60, uu), (63, uu), (160, uu), (161, uu)], fr := [(10, [])], hp := [], out := [] } = some (Ex.ret, { env := [(2, zn), (3, zi i), (4, zi 20), (5, zn), (6, zi i), (7, zi k), (44, uu), (60, uu), (63, zi i), (123, zi i), (135, uu), (160, uu), (161, uu), (162, uu)], fr := [(10, [])], hp := [], out := [] })) : @S.fnS (symA F) (T' fns (look (ps8 G W B))) n5 Lp ⟨0, 0⟩ vf8 [.p (.str s)] [] [] = some ((SV.tup [zn, zi i, zi 20], [], []), []) := by
  cbv
  rw [h0]
  cbv
  rw [h1]
  cbv
  rw [h2]
  cbv
theorem sem8zA_0 (F : Fns) (fns) (G : GT) (W : WT) (B : BT) (Lp : LPT) (s t : List UInt8) (i k k0 k1 k2 : Int) (rows : List (List PV))  (h0 : F Fn.cmp BinOp.gtr (Int.ofNat (F Fn.slen s)) 4096 = true) : @S.fnS (symA F) (T' fns (look (ps8 G W B))) n5 Lp ⟨0, 0⟩ vf8 [.p (.str s)] [] [] = some ((SV.tup [zn, zi 0, zi 6], [], []), []) := by
  cbv
  rw [h0]
  cbv
theorem sem8zA_1 (F : Fns) (fns) (G : GT) (W : WT) (B : BT) (Lp : LPT) (s t : List UInt8) (i k k0 k1 k2 : Int) (rows : List (List PV))  (h0 : F Fn.cmp BinOp.gtr (Int.ofNat (F Fn.slen s)) 4096 = false) (h1 : G s = true) (h2 : Lp b8 { env := [(0, SV.p (PV.str (B s))), (5, zn), (6, zi 0), (7, uu), (16, SV.p (PV.str (B s))), (44, uu), (60, uu), (63, uu), (160, uu), (161, uu)], fr := [(10, [])], hp := [], out := [] } = some (Ex.ret, { env := [(2, zn), (3, zi i), (4, zi 6), (5, zn), (6, zi i), (7, zi k), (44, uu), (60, uu), (63, zi i), (123, uu), (135, zi i), (160, uu), (161, uu), (162, uu)], fr := [(10, [])], hp := [], out := [] })) : @S.fnS (symA F) (T' fns (look (ps8 G W B))) n5 Lp ⟨0, 0⟩ vf8 [.p (.str s)] [] [] = some ((SV.tup [zn, zi i, zi 6], [], []), []) := by
  cbv
  rw [h0]
  cbv
  rw [h1]
  cbv
  rw [h2]
  cbv
theorem w3B_0 (F : Fns) (fns) (G : GT) (W : WT) (B : BT)  (Lp : LPT) (t : List UInt8) (i k0 k1 k2 : Int) (rows : List (List PV))    : EV F fns G W B Lp ⟨0, 0⟩ c8_3 { env := [(0, zs t), (5, SV.own 4 rows), (6, zi i), (7, uu), (16, zs t), (44, uu), (50, zb false), (60, uu), (63, uu), (160, uu), (161, uu)], fr := [(10, [])], hp := [], out := [] } = some (Ex.normal, { env := [(0, zs t), (5, SV.own 4 rows), (6, zi i), (7, zi i), (16, zs t), (44, uu), (60, uu), (63, zi i), (160, uu), (161, uu)], fr := [(10, [])], hp := [], out := [] }) := by
  cbv
theorem w4B_0 (F : Fns) (fns) (G : GT) (W : WT) (B : BT)  (Lp : LPT) (t : List UInt8) (i k0 k1 k2 : Int) (rows : List (List PV))    : EV F fns G W B Lp ⟨0, 0⟩ c8_4 { env := [(0, zs t), (5, SV.own 4 rows), (6, zi i), (7, zi i), (16, zs t), (44, uu), (60, uu), (63, zi i), (160, uu), (161, uu)], fr := [(10, [])], hp := [], out := [] } = some (Ex.normal, { env := [(0, zs t), (5, SV.own 4 rows), (6, zi i), (7, zi i), (8, zb true), (16, zs t), (44, uu), (60, uu), (63, zi i), (86, uu), (160, uu), (161, uu)], fr := [(10, [])], hp := [], out := [] }) := by
  cbv
theorem it8kDB_0 (F : Fns) (fns) (G : GT) (W : WT) (B : BT) (t w : List UInt8) (i k k2 : Int) (v al : Bool) (rows : List (List PV))   (h0 : F Fn.cmp BinOp.lss k (Int.ofNat (F Fn.slen t)) = false) : EV F fns G W B n2 ⟨0, 0⟩ b8k { env := [(0, zs t), (5, SV.own 4 rows), (6, zi i), (7, zi k), (8, zb true), (16, zs t), (44, uu), (60, uu), (63, zi i), (86, uu), (160, uu), (161, uu)], fr := [(10, [])], hp := [], out := [] } = some (Ex.exit 2, { env := [(0, zs t), (5, SV.own 4 rows), (6, zi i), (7, zi k), (8, zb true), (16, zs t), (44, uu), (60, uu), (63, zi i), (79, zb false), (86, uu), (160, uu), (161, uu)], fr := [(10, [])], hp := [], out := [] }) := by
  cbv
  rw [h0]
  cbv
theorem it8kDB_1 (F : Fns) (fns) (G : GT) (W : WT) (B : BT) (t w : List UInt8) (i k k2 : Int) (v al : Bool) (rows : List (List PV))  (x0 : UInt8) (h0 : F Fn.cmp BinOp.lss k (Int.ofNat (F Fn.slen t)) = true) (h1 : F Fn.cmp BinOp.leq 0 k = true) (h2 : F Fn.sget t (F Fn.toN k) = some x0) (h3 : G LT = true) (h4 : W (Int.ofNat ↑x0.toBitVec.toFin) LT = true) (h5 : F Fn.cmp BinOp.leq 0 k = true) (h6 : F Fn.sget t (F Fn.toN k) = some x0) (h7 : G DG = true) : EV F fns G W B n2 ⟨0, 0⟩ b8k { env := [(0, zs t), (5, SV.own 4 rows), (6, zi i), (7, zi k), (8, zb true), (16, zs t), (44, uu), (60, uu), (63, zi i), (86, uu), (160, uu), (161, uu)], fr := [(10, [])], hp := [], out := [] } = some (Ex.normal, { env := [(0, zs t), (5, SV.own 4 rows), (6, zi i), (7, SV.p (PV.int IntKind.i64 (F Fn.ar BinOp.add IntKind.i64 k 1))), (8, SV.p (PV.bool (W (Int.ofNat ↑x0.toBitVec.toFin) DG))), (16, zs t), (44, uu), (60, uu), (63, zi i), (86, SV.p (PV.bool (W (Int.ofNat ↑x0.toBitVec.toFin) DG))), (160, uu), (161, uu)], fr := [(10, [])], hp := [], out := [] }) := by
  cbv
  rw [h0]
  cbv
  rw [h1]
  cbv
  rw [h2]
  cbv
  rw [h3]
  cbv
  rw [h4]
  cbv
  rw [h5]
  cbv
  rw [h6]
  cbv
  rw [h7]
  cbv
theorem it8kDB_2 (F : Fns) (fns) (G : GT) (W : WT) (B : BT) (t w : List UInt8) (i k k2 : Int) (v al : Bool) (rows : List (List PV))  (x0 : UInt8) (h0 : F Fn.cmp BinOp.lss k (Int.ofNat (F Fn.slen t)) = true) (h1 : F Fn.cmp BinOp.leq 0 k = true) (h2 : F Fn.sget t (F Fn.toN k) = some x0) (h3 : G LT = true) (h4 : W (Int.ofNat ↑x0.toBitVec.toFin) LT = false) (h5 : F Fn.cmp BinOp.leq 0 k = true) (h6 : F Fn.sget t (F Fn.toN k) = some x0) (h7 : G DG = true) (h8 : W (Int.ofNat ↑x0.toBitVec.toFin) DG = false) : EV F fns G W B n2 ⟨0, 0⟩ b8k { env := [(0, zs t), (5, SV.own 4 rows), (6, zi i), (7, zi k), (8, zb true), (16, zs t), (44, uu), (60, uu), (63, zi i), (86, uu), (160, uu), (161, uu)], fr := [(10, [])], hp := [], out := [] } = some (Ex.exit 2, { env := [(0, zs t), (5, SV.own 4 rows), (6, zi i), (7, zi k), (8, zb true), (16, zs t), (44, uu), (60, uu), (63, zi i), (79, zb false), (86, uu), (160, uu), (161, uu)], fr := [(10, [])], hp := [], out := [] }) := by
  cbv
  rw [h0]
  cbv
  rw [h1]
  cbv
  rw [h2]
  cbv
  rw [h3]
  cbv
  rw [h4]
  cbv
  rw [h5]
  cbv
  rw [h6]
  cbv
  rw [h7]
  cbv
  rw [h8]
  cbv
theorem it8kDB_3 (F : Fns) (fns) (G : GT) (W : WT) (B : BT) (t w : List UInt8) (i k k2 : Int) (v al : Bool) (rows : List (List PV))  (x0 : UInt8) (h0 : F Fn.cmp BinOp.lss k (Int.ofNat (F Fn.slen t)) = true) (h1 : F Fn.cmp BinOp.leq 0 k = true) (h2 : F Fn.sget t (F Fn.toN k) = some x0) (h3 : G LT = true) (h4 : W (Int.ofNat ↑x0.toBitVec.toFin) LT = false) (h5 : F Fn.cmp BinOp.leq 0 k = true) (h6 : F Fn.sget t (F Fn.toN k) = some x0) (h7 : G DG = true) (h8 : W (Int.ofNat ↑x0.toBitVec.toFin) DG = true) (h9 : F Fn.cmp BinOp.leq 0 k = true) (h10 : F Fn.sget t (F Fn.toN k) = some x0) (h11 : G DG = true) : EV F fns G W B n2 ⟨0, 0⟩ b8k { env := [(0, zs t), (5, SV.own 4 rows), (6, zi i), (7, zi k), (8, zb true), (16, zs t), (44, uu), (60, uu), (63, zi i), (86, uu), (160, uu), (161, uu)], fr := [(10, [])], hp := [], out := [] } = some (Ex.normal, { env := [(0, zs t), (5, SV.own 4 rows), (6, zi i), (7, SV.p (PV.int IntKind.i64 (F Fn.ar BinOp.add IntKind.i64 k 1))), (8, SV.p (PV.bool (true))), (16, zs t), (44, uu), (60, uu), (63, zi i), (86, SV.p (PV.bool (true))), (160, uu), (161, uu)], fr := [(10, [])], hp := [], out := [] }) := by
  cbv
  rw [h0]
  cbv
  rw [h1]
  cbv
  rw [h2]
  cbv
  rw [h3]
  cbv
  rw [h4]
  cbv
  rw [h5]
  cbv
  rw [h6]
  cbv
  rw [h7]
  cbv
  rw [h8]
  cbv
  rw [h9]
  cbv
  rw [h10]
  cbv
  rw [h11]
  cbv
  rw [h8]
theorem it8kEtB_0 (F : Fns) (fns) (G : GT) (W : WT) (B : BT) (t w : List UInt8) (i k k2 : Int) (v al : Bool) (rows : List (List PV))   (h0 : F Fn.cmp BinOp.lss k (Int.ofNat (F Fn.slen t)) = false) : EV F fns G W B n2 ⟨0, 0⟩ b8k { env := [(0, zs t), (5, SV.own 4 rows), (6, zi i), (7, zi k), (8, zb true), (16, zs t), (44, uu), (60, uu), (63, zi i), (86, zb v), (160, uu), (161, uu)], fr := [(10, [])], hp := [], out := [] } = some (Ex.exit 2, { env := [(0, zs t), (5, SV.own 4 rows), (6, zi i), (7, zi k), (8, zb true), (16, zs t), (44, uu), (60, uu), (63, zi i), (79, zb false), (86, zb v), (160, uu), (161, uu)], fr := [(10, [])], hp := [], out := [] }) := by
  cbv
  rw [h0]
  cbv
theorem it8kEtB_1 (F : Fns) (fns) (G : GT) (W : WT) (B : BT) (t w : List UInt8) (i k k2 : Int) (v al : Bool) (rows : List (List PV))  (x0 : UInt8) (h0 : F Fn.cmp BinOp.lss k (Int.ofNat (F Fn.slen t)) = true) (h1 : F Fn.cmp BinOp.leq 0 k = true) (h2 : F Fn.sget t (F Fn.toN k) = some x0) (h3 : G LT = true) (h4 : W (Int.ofNat ↑x0.toBitVec.toFin) LT = true) (h5 : F Fn.cmp BinOp.leq 0 k = true) (h6 : F Fn.sget t (F Fn.toN k) = some x0) (h7 : G DG = true) : EV F fns G W B n2 ⟨0, 0⟩ b8k { env := [(0, zs t), (5, SV.own 4 rows), (6, zi i), (7, zi k), (8, zb true), (16, zs t), (44, uu), (60, uu), (63, zi i), (86, zb v), (160, uu), (161, uu)], fr := [(10, [])], hp := [], out := [] } = some (Ex.normal, { env := [(0, zs t), (5, SV.own 4 rows), (6, zi i), (7, SV.p (PV.int IntKind.i64 (F Fn.ar BinOp.add IntKind.i64 k 1))), (8, SV.p (PV.bool (W (Int.ofNat ↑x0.toBitVec.toFin) DG))), (16, zs t), (44, uu), (60, uu), (63, zi i), (86, SV.p (PV.bool (W (Int.ofNat ↑x0.toBitVec.toFin) DG))), (160, uu), (161, uu)], fr := [(10, [])], hp := [], out := [] }) := by
  cbv
  rw [h0]
  cbv
  rw [h1]
  cbv
  rw [h2]
  cbv
  rw [h3]
  cbv
  rw [h4]
  cbv
  rw [h5]
  cbv
  rw [h6]
  cbv
  rw [h7]
  cbv
theorem it8kEtB_2 (F : Fns) (fns) (G : GT) (W : WT) (B : BT) (t w : List UInt8) (i k k2 : Int) (v al : Bool) (rows : List (List PV))  (x0 : UInt8) (h0 : F Fn.cmp BinOp.lss k (Int.ofNat (F Fn.slen t)) = true) (h1 : F Fn.cmp BinOp.leq 0 k = true) (h2 : F Fn.sget t (F Fn.toN k) = some x0) (h3 : G LT = true) (h4 : W (Int.ofNat ↑x0.toBitVec.toFin) LT = false) (h5 : F Fn.cmp BinOp.leq 0 k = true) (h6 : F Fn.sget t (F Fn.toN k) = some x0) (h7 : G DG = true) (h8 : W (Int.ofNat ↑x0.toBitVec.toFin) DG = false) : EV F fns G W B n2 ⟨0, 0⟩ b8k { env := [(0, zs t), (5, SV.own 4 rows), (6, zi i), (7, zi k), (8, zb true), (16, zs t), (44, uu), (60, uu), (63, zi i), (86, zb v), (160, uu), (161, uu)], fr := [(10, [])], hp := [], out := [] } = some (Ex.exit 2, { env := [(0, zs t), (5, SV.own 4 rows), (6, zi i), (7, zi k), (8, zb true), (16, zs t), (44, uu), (60, uu), (63, zi i), (79, zb false), (86, zb v), (160, uu), (161, uu)], fr := [(10, [])], hp := [], out := [] }) := by
  cbv
  rw [h0]
  cbv
  rw [h1]
  cbv
  rw [h2]
  cbv
  rw [h3]
  cbv
  rw [h4]
  cbv
  rw [h5]
  cbv
  rw [h6]
  cbv
  rw [h7]
  cbv
  rw [h8]
  cbv
theorem it8kEtB_3 (F : Fns) (fns) (G : GT) (W : WT) (B : BT) (t w : List UInt8) (i k k2 : Int) (v al : Bool) (rows : List (List PV))  (x0 : UInt8) (h0 : F Fn.cmp BinOp.lss k (Int.ofNat (F Fn.slen t)) = true) (h1 : F Fn.cmp BinOp.leq 0 k = true) (h2 : F Fn.sget t (F Fn.toN k) = some x0) (h3 : G LT = true) (h4 : W (Int.ofNat ↑x0.toBitVec.toFin) LT = false) (h5 : F Fn.cmp BinOp.leq 0 k = true) (h6 : F Fn.sget t (F Fn.toN k) = some x0) (h7 : G DG = true) (h8 : W (Int.ofNat ↑x0.toBitVec.toFin) DG = true) (h9 : F Fn.cmp BinOp.leq 0 k = true) (h10 : F Fn.sget t (F Fn.toN k) = some x0) (h11 : G DG = true) : EV F fns G W B n2 ⟨0, 0⟩ b8k { env := [(0, zs t), (5, SV.own 4 rows), (6, zi i), (7, zi k), (8, zb true), (16, zs t), (44, uu), (60, uu), (63, zi i), (86, zb v), (160, uu), (161, uu)], fr := [(10, [])], hp := [], out := [] } = some (Ex.normal, { env := [(0, zs t), (5, SV.own 4 rows), (6, zi i), (7, SV.p (PV.int IntKind.i64 (F Fn.ar BinOp.add IntKind.i64 k 1))), (8, SV.p (PV.bool (true))), (16, zs t), (44, uu), (60, uu), (63, zi i), (86, SV.p (PV.bool (true))), (160, uu), (161, uu)], fr := [(10, [])], hp := [], out := [] }) := by
  cbv
  rw [h0]
  cbv
  rw [h1]
  cbv
  rw [h2]
  cbv
  rw [h3]
  cbv
  rw [h4]
  cbv
  rw [h5]
  cbv
  rw [h6]
  cbv
  rw [h7]
  cbv
  rw [h8]
  cbv
  rw [h9]
  cbv
  rw [h10]
  cbv
  rw [h11]
  cbv
  rw [h8]
theorem it8kEfB_0 (F : Fns) (fns) (G : GT) (W : WT) (B : BT) (t w : List UInt8) (i k k2 : Int) (v al : Bool) (rows : List (List PV))   (h0 : F Fn.cmp BinOp.lss k (Int.ofNat (F Fn.slen t)) = false) : EV F fns G W B n2 ⟨0, 0⟩ b8k { env := [(0, zs t), (5, SV.own 4 rows), (6, zi i), (7, zi k), (8, zb false), (16, zs t), (44, uu), (60, uu), (63, zi i), (86, zb v), (160, uu), (161, uu)], fr := [(10, [])], hp := [], out := [] } = some (Ex.exit 2, { env := [(0, zs t), (5, SV.own 4 rows), (6, zi i), (7, zi k), (8, zb false), (16, zs t), (44, uu), (60, uu), (63, zi i), (79, zb false), (86, zb v), (160, uu), (161, uu)], fr := [(10, [])], hp := [], out := [] }) := by
  cbv
  rw [h0]
  cbv
theorem it8kEfB_1 (F : Fns) (fns) (G : GT) (W : WT) (B : BT) (t w : List UInt8) (i k k2 : Int) (v al : Bool) (rows : List (List PV))  (x0 : UInt8) (h0 : F Fn.cmp BinOp.lss k (Int.ofNat (F Fn.slen t)) = true) (h1 : F Fn.cmp BinOp.leq 0 k = true) (h2 : F Fn.sget t (F Fn.toN k) = some x0) (h3 : G LT = true) (h4 : W (Int.ofNat ↑x0.toBitVec.toFin) LT = true) : EV F fns G W B n2 ⟨0, 0⟩ b8k { env := [(0, zs t), (5, SV.own 4 rows), (6, zi i), (7, zi k), (8, zb false), (16, zs t), (44, uu), (60, uu), (63, zi i), (86, zb v), (160, uu), (161, uu)], fr := [(10, [])], hp := [], out := [] } = some (Ex.normal, { env := [(0, zs t), (5, SV.own 4 rows), (6, zi i), (7, SV.p (PV.int IntKind.i64 (F Fn.ar BinOp.add IntKind.i64 k 1))), (8, zb false), (16, zs t), (44, uu), (60, uu), (63, zi i), (86, zb false), (160, uu), (161, uu)], fr := [(10, [])], hp := [], out := [] }) := by
  cbv
  rw [h0]
  cbv
  rw [h1]
  cbv
  rw [h2]
  cbv
  rw [h3]
  cbv
  rw [h4]
  cbv
theorem it8kEfB_2 (F : Fns) (fns) (G : GT) (W : WT) (B : BT) (t w : List UInt8) (i k k2 : Int) (v al : Bool) (rows : List (List PV))  (x0 : UInt8) (h0 : F Fn.cmp BinOp.lss k (Int.ofNat (F Fn.slen t)) = true) (h1 : F Fn.cmp BinOp.leq 0 k = true) (h2 : F Fn.sget t (F Fn.toN k) = some x0) (h3 : G LT = true) (h4 : W (Int.ofNat ↑x0.toBitVec.toFin) LT = false) (h5 : F Fn.cmp BinOp.leq 0 k = true) (h6 : F Fn.sget t (F Fn.toN k) = some x0) (h7 : G DG = true) (h8 : W (Int.ofNat ↑x0.toBitVec.toFin) DG = true) : EV F fns G W B n2 ⟨0, 0⟩ b8k { env := [(0, zs t), (5, SV.own 4 rows), (6, zi i), (7, zi k), (8, zb false), (16, zs t), (44, uu), (60, uu), (63, zi i), (86, zb v), (160, uu), (161, uu)], fr := [(10, [])], hp := [], out := [] } = some (Ex.normal, { env := [(0, zs t), (5, SV.own 4 rows), (6, zi i), (7, SV.p (PV.int IntKind.i64 (F Fn.ar BinOp.add IntKind.i64 k 1))), (8, zb false), (16, zs t), (44, uu), (60, uu), (63, zi i), (86, zb false), (160, uu), (161, uu)], fr := [(10, [])], hp := [], out := [] }) := by
  cbv
  rw [h0]
  cbv
  rw [h1]
  cbv
  rw [h2]
  cbv
  rw [h3]
  cbv
  rw [h4]
  cbv
  rw [h5]
  cbv
  rw [h6]
  cbv
  rw [h7]
  cbv
  rw [h8]
  cbv
theorem it8kEfB_3 (F : Fns) (fns) (G : GT) (W : WT) (B : BT) (t w : List UInt8) (i k k2 : Int) (v al : Bool) (rows : List (List PV))  (x0 : UInt8) (h0 : F Fn.cmp BinOp.lss k (Int.ofNat (F Fn.slen t)) = true) (h1 : F Fn.cmp BinOp.leq 0 k = true) (h2 : F Fn.sget t (F Fn.toN k) = some x0) (h3 : G LT = true) (h4 : W (Int.ofNat ↑x0.toBitVec.toFin) LT = false) (h5 : F Fn.cmp BinOp.leq 0 k = true) (h6 : F Fn.sget t (F Fn.toN k) = some x0) (h7 : G DG = true) (h8 : W (Int.ofNat ↑x0.toBitVec.toFin) DG = false) : EV F fns G W B n2 ⟨0, 0⟩ b8k { env := [(0, zs t), (5, SV.own 4 rows), (6, zi i), (7, zi k), (8, zb false), (16, zs t), (44, uu), (60, uu), (63, zi i), (86, zb v), (160, uu), (161, uu)], fr := [(10, [])], hp := [], out := [] } = some (Ex.exit 2, { env := [(0, zs t), (5, SV.own 4 rows), (6, zi i), (7, zi k), (8, zb false), (16, zs t), (44, uu), (60, uu), (63, zi i), (79, zb false), (86, zb v), (160, uu), (161, uu)], fr := [(10, [])], hp := [], out := [] }) := by
  cbv
  rw [h0]
  cbv
  rw [h1]
  cbv
  rw [h2]
  cbv
  rw [h3]
  cbv
  rw [h4]
  cbv
  rw [h5]
  cbv
  rw [h6]
  cbv
  rw [h7]
  cbv
  rw [h8]
  cbv
theorem w5DB_0 (F : Fns) (fns) (G : GT) (W : WT) (B : BT)  (Lp : LPT) (t w : List UInt8) (i k k2 : Int) (v al : Bool) (rows : List (List PV))   (h0 : Lp b8k { env := [(0, zs t), (5, SV.own 4 rows), (6, zi i), (7, zi i), (8, zb true), (16, zs t), (44, uu), (60, uu), (63, zi i), (86, uu), (160, uu), (161, uu)], fr := [(10, [])], hp := [], out := [] } = some (Ex.exit 2, { env := [(0, zs t), (5, SV.own 4 rows), (6, zi i), (7, zi k), (8, zb al), (16, zs t), (44, uu), (60, uu), (63, zi i), (79, zb false), (86, uu), (160, uu), (161, uu)], fr := [(10, [])], hp := [], out := [] })) : EV F fns G W B Lp ⟨0, 0⟩ c8_5 { env := [(0, zs t), (5, SV.own 4 rows), (6, zi i), (7, zi i), (8, zb true), (16, zs t), (44, uu), (60, uu), (63, zi i), (86, uu), (160, uu), (161, uu)], fr := [(10, [])], hp := [], out := [] } = some (Ex.normal, { env := [(0, zs t), (5, SV.own 4 rows), (6, zi i), (7, zi k), (8, zb al), (16, zs t), (44, uu), (60, uu), (63, zi i), (79, zb false), (86, uu), (160, uu), (161, uu)], fr := [(10, [])], hp := [], out := [] }) := by
  cbv
  rw [h0]
  cbv
theorem w6DB_0 (F : Fns) (fns) (G : GT) (W : WT) (B : BT)  (Lp : LPT) (t w : List UInt8) (i k k2 : Int) (v al : Bool) (rows : List (List PV))   (h0 : F Fn.cmp BinOp.leq 0 k = true) (h1 : F Fn.cmp BinOp.leq 0 i = true) (h2 : F Fn.le (F Fn.toN i) (F Fn.toN k) = true) (h3 : F Fn.le (F Fn.toN k) (F Fn.slen t) = true) : EV F fns G W B Lp ⟨0, 0⟩ c8_6 { env := [(0, zs t), (5, SV.own 4 rows), (6, zi i), (7, zi k), (8, zb al), (16, zs t), (44, uu), (60, uu), (63, zi i), (79, zb false), (86, uu), (160, uu), (161, uu)], fr := [(10, [])], hp := [], out := [] } = some (Ex.normal, { env := [(0, zs t), (5, SV.own 4 rows), (6, zi i), (7, zi k), (8, zb al), (9, SV.p (PV.str (F Fn.scut t (F Fn.toN i) (F Fn.toN k)))), (16, zs t), (44, uu), (60, uu), (63, zi i), (86, uu), (160, uu), (161, uu)], fr := [(10, [])], hp := [], out := [] }) := by
  cbv
  rw [h0]
  cbv
  rw [h1]
  cbv
  rw [h2]
  cbv
  rw [h3]
  cbv
theorem w5EB_0 (F : Fns) (fns) (G : GT) (W : WT) (B : BT)  (Lp : LPT) (t w : List UInt8) (i k k2 : Int) (v al : Bool) (rows : List (List PV))   (h0 : Lp b8k { env := [(0, zs t), (5, SV.own 4 rows), (6, zi i), (7, zi i), (8, zb true), (16, zs t), (44, uu), (60, uu), (63, zi i), (86, uu), (160, uu), (161, uu)], fr := [(10, [])], hp := [], out := [] } = some (Ex.exit 2, { env := [(0, zs t), (5, SV.own 4 rows), (6, zi i), (7, zi k), (8, zb al), (16, zs t), (44, uu), (60, uu), (63, zi i), (79, zb false), (86, zb v), (160, uu), (161, uu)], fr := [(10, [])], hp := [], out := [] })) : EV F fns G W B Lp ⟨0, 0⟩ c8_5 { env := [(0, zs t), (5, SV.own 4 rows), (6, zi i), (7, zi i), (8, zb true), (16, zs t), (44, uu), (60, uu), (63, zi i), (86, uu), (160, uu), (161, uu)], fr := [(10, [])], hp := [], out := [] } = some (Ex.normal, { env := [(0, zs t), (5, SV.own 4 rows), (6, zi i), (7, zi k), (8, zb al), (16, zs t), (44, uu), (60, uu), (63, zi i), (79, zb false), (86, zb v), (160, uu), (161, uu)], fr := [(10, [])], hp := [], out := [] }) := by
  cbv
  rw [h0]
  cbv
theorem w6EB_0 (F : Fns) (fns) (G : GT) (W : WT) (B : BT)  (Lp : LPT) (t w : List UInt8) (i k k2 : Int) (v al : Bool) (rows : List (List PV))   (h0 : F Fn.cmp BinOp.leq 0 k = true) (h1 : F Fn.cmp BinOp.leq 0 i = true) (h2 : F Fn.le (F Fn.toN i) (F Fn.toN k) = true) (h3 : F Fn.le (F Fn.toN k) (F Fn.slen t) = true) : EV F fns G W B Lp ⟨0, 0⟩ c8_6 { env := [(0, zs t), (5, SV.own 4 rows), (6, zi i), (7, zi k), (8, zb al), (16, zs t), (44, uu), (60, uu), (63, zi i), (79, zb false), (86, zb v), (160, uu), (161, uu)], fr := [(10, [])], hp := [], out := [] } = some (Ex.normal, { env := [(0, zs t), (5, SV.own 4 rows), (6, zi i), (7, zi k), (8, zb al), (9, SV.p (PV.str (F Fn.scut t (F Fn.toN i) (F Fn.toN k)))), (16, zs t), (44, uu), (60, uu), (63, zi i), (86, zb v), (160, uu), (161, uu)], fr := [(10, [])], hp := [], out := [] }) := by
  cbv
  rw [h0]
  cbv
  rw [h1]
  cbv
  rw [h2]
  cbv
  rw [h3]
  cbv
theorem w7DB_0 (F : Fns) (fns) (G : GT) (W : WT) (B : BT)  (Lp : LPT) (t w : List UInt8) (i k k2 : Int) (v al : Bool) (rows : List (List PV))   (h0 : F Fn.cmp BinOp.eql (Int.ofNat (F Fn.slen w)) 0 = true) : EV F fns G W B Lp ⟨0, 0⟩ c8_7 { env := [(0, zs t), (5, SV.own 4 rows), (6, zi i), (7, zi k), (8, zb al), (9, zs w), (16, zs t), (44, uu), (60, uu), (63, zi i), (86, uu), (160, uu), (161, uu)], fr := [(10, [])], hp := [], out := [] } = some (Ex.ret, { env := [(2, zn), (3, zi i), (4, zi 20), (5, SV.own 4 rows), (6, zi i), (7, zi k), (44, uu), (60, uu), (63, zi i), (123, zi i), (135, uu), (160, uu), (161, uu), (162, uu)], fr := [(10, [])], hp := [], out := [] }) := by
  cbv
  rw [h0]
  cbv
theorem w7tB_0 (F : Fns) (fns) (G : GT) (W : WT) (B : BT)  (Lp : LPT) (t w : List UInt8) (i k k2 : Int) (v al : Bool) (rows : List (List PV))   (h0 : F Fn.cmp BinOp.eql (Int.ofNat (F Fn.slen w)) 0 = false) (h1 : F Fn.cmp BinOp.gtr (Int.ofNat (F Fn.slen w)) 1 = false) : EV F fns G W B Lp ⟨0, 0⟩ c8_7 { env := [(0, zs t), (5, SV.own 4 rows), (6, zi i), (7, zi k), (8, zb true), (9, zs w), (16, zs t), (44, uu), (60, uu), (63, zi i), (86, zb v), (160, uu), (161, uu)], fr := [(10, [])], hp := [], out := [] } = some (Ex.normal, { env := [(0, zs t), (5, SV.own 4 rows), (6, zi i), (7, zi k), (8, zb true), (9, zs w), (16, zs t), (44, uu), (60, uu), (63, zi i), (86, zb v), (122, zb false), (160, uu), (161, uu)], fr := [(10, [])], hp := [], out := [] }) := by
  cbv
  rw [h0]
  cbv
  rw [h1]
  cbv
theorem w7tB_1 (F : Fns) (fns) (G : GT) (W : WT) (B : BT)  (Lp : LPT) (t w : List UInt8) (i k k2 : Int) (v al : Bool) (rows : List (List PV))   (h0 : F Fn.cmp BinOp.eql (Int.ofNat (F Fn.slen w)) 0 = false) (h1 : F Fn.cmp BinOp.gtr (Int.ofNat (F Fn.slen w)) 1 = true) (h2 : F Fn.cmp BinOp.lss (Int.ofNat (F Fn.slen w)) 7 = false) : EV F fns G W B Lp ⟨0, 0⟩ c8_7 { env := [(0, zs t), (5, SV.own 4 rows), (6, zi i), (7, zi k), (8, zb true), (9, zs w), (16, zs t), (44, uu), (60, uu), (63, zi i), (86, zb v), (160, uu), (161, uu)], fr := [(10, [])], hp := [], out := [] } = some (Ex.normal, { env := [(0, zs t), (5, SV.own 4 rows), (6, zi i), (7, zi k), (8, zb true), (9, zs w), (16, zs t), (44, uu), (60, uu), (63, zi i), (86, zb v), (122, zb false), (160, uu), (161, uu)], fr := [(10, [])], hp := [], out := [] }) := by
  cbv
  rw [h0]
  cbv
  rw [h1]
  cbv
  rw [h2]
  cbv
theorem w7tB_2 (F : Fns) (fns) (G : GT) (W : WT) (B : BT)  (Lp : LPT) (t w : List UInt8) (i k k2 : Int) (v al : Bool) (rows : List (List PV))  (x0 : UInt8) (h0 : F Fn.cmp BinOp.eql (Int.ofNat (F Fn.slen w)) 0 = false) (h1 : F Fn.cmp BinOp.gtr (Int.ofNat (F Fn.slen w)) 1 = true) (h2 : F Fn.cmp BinOp.lss (Int.ofNat (F Fn.slen w)) 7 = true) (h3 : F Fn.cmp BinOp.leq 0 0 = true) (h4 : F Fn.sget w (F Fn.toN 0) = some x0) (h5 : F Fn.cmp BinOp.eql (Int.ofNat x0.1.1.1) 48 = true) : EV F fns G W B Lp ⟨0, 0⟩ c8_7 { env := [(0, zs t), (5, SV.own 4 rows), (6, zi i), (7, zi k), (8, zb true), (9, zs w), (16, zs t), (44, uu), (60, uu), (63, zi i), (86, zb v), (160, uu), (161, uu)], fr := [(10, [])], hp := [], out := [] } = some (Ex.ret, { env := [(2, zn), (3, zi i), (4, zi 20), (5, SV.own 4 rows), (6, zi i), (7, zi k), (44, uu), (60, uu), (63, zi i), (123, zi i), (135, uu), (160, uu), (161, uu), (162, uu)], fr := [(10, [])], hp := [], out := [] }) := by
  cbv
  rw [h0]
  cbv
  rw [h1]
  cbv
  rw [h2]
  cbv
  rw [h3]
  cbv
  rw [h4]
  cbv
  rw [h5]
  cbv
theorem w7tB_3 (F : Fns) (fns) (G : GT) (W : WT) (B : BT)  (Lp : LPT) (t w : List UInt8) (i k k2 : Int) (v al : Bool) (rows : List (List PV))  (x0 : UInt8) (h0 : F Fn.cmp BinOp.eql (Int.ofNat (F Fn.slen w)) 0 = false) (h1 : F Fn.cmp BinOp.gtr (Int.ofNat (F Fn.slen w)) 1 = true) (h2 : F Fn.cmp BinOp.lss (Int.ofNat (F Fn.slen w)) 7 = true) (h3 : F Fn.cmp BinOp.leq 0 0 = true) (h4 : F Fn.sget w (F Fn.toN 0) = some x0) (h5 : F Fn.cmp BinOp.eql (Int.ofNat x0.1.1.1) 48 = false) : EV F fns G W B Lp ⟨0, 0⟩ c8_7 { env := [(0, zs t), (5, SV.own 4 rows), (6, zi i), (7, zi k), (8, zb true), (9, zs w), (16, zs t), (44, uu), (60, uu), (63, zi i), (86, zb v), (160, uu), (161, uu)], fr := [(10, [])], hp := [], out := [] } = some (Ex.normal, { env := [(0, zs t), (5, SV.own 4 rows), (6, zi i), (7, zi k), (8, zb true), (9, zs w), (16, zs t), (44, uu), (60, uu), (63, zi i), (86, zb v), (122, zb false), (160, uu), (161, uu)], fr := [(10, [])], hp := [], out := [] }) := by
  cbv
  rw [h0]
  cbv
  rw [h1]
  cbv
  rw [h2]
  cbv
  rw [h3]
  cbv
  rw [h4]
  cbv
  rw [h5]
  cbv
theorem w8tB_0 (F : Fns) (fns) (G : GT) (W : WT) (B : BT)  (Lp : LPT) (t w : List UInt8) (i k k2 : Int) (v al : Bool) (rows : List (List PV))   (h0 : F Fn.cmp BinOp.gtr (Int.ofNat (F Fn.slen w)) 6 = true) : EV F fns G W B Lp ⟨0, 0⟩ c8_8 { env := [(0, zs t), (5, SV.own 4 rows), (6, zi i), (7, zi k), (8, zb true), (9, zs w), (16, zs t), (44, uu), (60, uu), (63, zi i), (86, zb v), (122, zb false), (160, uu), (161, uu)], fr := [(10, [])], hp := [], out := [] } = some (Ex.ret, { env := [(2, zn), (3, zi i), (4, zi 6), (5, SV.own 4 rows), (6, zi i), (7, zi k), (44, uu), (60, uu), (63, zi i), (123, uu), (135, zi i), (160, uu), (161, uu), (162, uu)], fr := [(10, [])], hp := [], out := [] }) := by
  cbv
  rw [h0]
  cbv
theorem w8tB_1 (F : Fns) (fns) (G : GT) (W : WT) (B : BT)  (Lp : LPT) (t w : List UInt8) (i k k2 : Int) (v al : Bool) (rows : List (List PV))   (h0 : F Fn.cmp BinOp.gtr (Int.ofNat (F Fn.slen w)) 6 = false) (h1 : F Fn.cmp BinOp.gtr (Int.ofNat (F Fn.slen w)) 16 = true) : EV F fns G W B Lp ⟨0, 0⟩ c8_8 { env := [(0, zs t), (5, SV.own 4 rows), (6, zi i), (7, zi k), (8, zb true), (9, zs w), (16, zs t), (44, uu), (60, uu), (63, zi i), (86, zb v), (122, zb false), (160, uu), (161, uu)], fr := [(10, [])], hp := [], out := [] } = some (Ex.ret, { env := [(2, zn), (3, zi i), (4, zi 6), (5, SV.own 4 rows), (6, zi i), (7, zi k), (44, uu), (60, uu), (63, zi i), (123, uu), (135, zi i), (160, uu), (161, uu), (162, uu)], fr := [(10, [])], hp := [], out := [] }) := by
  cbv
  rw [h0]
  cbv
  rw [h1]
  cbv
theorem w8tB_2 (F : Fns) (fns) (G : GT) (W : WT) (B : BT)  (Lp : LPT) (t w : List UInt8) (i k k2 : Int) (v al : Bool) (rows : List (List PV))   (h0 : F Fn.cmp BinOp.gtr (Int.ofNat (F Fn.slen w)) 6 = false) (h1 : F Fn.cmp BinOp.gtr (Int.ofNat (F Fn.slen w)) 16 = false) : EV F fns G W B Lp ⟨0, 0⟩ c8_8 { env := [(0, zs t), (5, SV.own 4 rows), (6, zi i), (7, zi k), (8, zb true), (9, zs w), (16, zs t), (44, uu), (60, uu), (63, zi i), (86, zb v), (122, zb false), (160, uu), (161, uu)], fr := [(10, [])], hp := [], out := [] } = some (Ex.normal, { env := [(0, zs t), (5, SV.own 4 rows), (6, zi i), (7, zi k), (8, zb true), (9, zs w), (16, zs t), (44, uu), (60, uu), (63, zi i), (86, zb v), (134, zb false), (160, uu), (161, uu)], fr := [(10, [])], hp := [], out := [] }) := by
  cbv
  rw [h0]
  cbv
  rw [h1]
  cbv
theorem w9tB_0 (F : Fns) (fns) (G : GT) (W : WT) (B : BT)  (Lp : LPT) (t w : List UInt8) (i k k2 : Int) (v al : Bool) (rows : List (List PV))    : EV F fns G W B Lp ⟨0, 0⟩ c8_9 { env := [(0, zs t), (5, SV.own 4 rows), (6, zi i), (7, zi k), (8, zb true), (9, zs w), (16, zs t), (44, uu), (60, uu), (63, zi i), (86, zb v), (134, zb false), (160, uu), (161, uu)], fr := [(10, [])], hp := [], out := [] } = some (Ex.normal, { env := [(0, zs t), (5, SV.own 4 rows), (6, zi i), (7, zi k), (8, zb true), (9, zs w), (10, SV.ptr { root := Root.st 0 10, off := 0, row := none }), (16, zs t), (44, uu), (60, uu), (63, zi i), (86, zb v), (160, uu), (161, uu)], fr := [(10, [zi 1, zs w, zi 0, zi i])], hp := [], out := [] }) := by
  cbv
theorem w10tB_0 (F : Fns) (fns) (G : GT) (W : WT) (B : BT)  (Lp : LPT) (t w : List UInt8) (i k k2 : Int) (v al : Bool) (rows : List (List PV)) (n j : Int)   (h0 : Lp b8j { env := [(0, zs t), (5, SV.own 4 rows), (6, zi i), (7, zi k), (9, zs w), (10, SV.ptr { root := Root.st 0 10, off := 0, row := none }), (11, zi 0), (16, zs t), (44, uu), (60, uu), (63, zi i), (160, uu), (161, uu)], fr := [(10, [zi 2, zs w, zi 0, zi i])], hp := [], out := [] } = some (Ex.exit 4, { env := [(0, zs t), (5, SV.own 4 rows), (6, zi i), (7, zi k), (9, zs w), (10, SV.ptr { root := Root.st 0 10, off := 0, row := none }), (11, zi j), (16, zs t), (44, uu), (60, uu), (63, zi i), (144, zb false), (160, uu), (161, uu)], fr := [(10, [zi 2, zs w, zi n, zi i])], hp := [], out := [] })) : EV F fns G W B Lp ⟨0, 0⟩ c8_10 { env := [(0, zs t), (5, SV.own 4 rows), (6, zi i), (7, zi k), (8, zb true), (9, zs w), (10, SV.ptr { root := Root.st 0 10, off := 0, row := none }), (16, zs t), (44, uu), (60, uu), (63, zi i), (86, zb v), (160, uu), (161, uu)], fr := [(10, [zi 1, zs w, zi 0, zi i])], hp := [], out := [] } = some (Ex.normal, { env := [(0, zs t), (5, SV.own 4 rows), (6, zi i), (7, zi k), (9, zs w), (10, SV.ptr { root := Root.st 0 10, off := 0, row := none }), (11, zi j), (16, zs t), (44, uu), (60, uu), (63, zi i), (144, zb false), (160, uu), (161, uu)], fr := [(10, [zi 2, zs w, zi n, zi i])], hp := [], out := [] }) := by
  cbv
  rw [h0]
  cbv
theorem w7fB_0 (F : Fns) (fns) (G : GT) (W : WT) (B : BT)  (Lp : LPT) (t w : List UInt8) (i k k2 : Int) (v al : Bool) (rows : List (List PV))  (x0 : UInt8) (h0 : F Fn.cmp BinOp.eql (Int.ofNat (F Fn.slen w)) 0 = false) (h1 : F Fn.cmp BinOp.leq 0 0 = true) (h2 : F Fn.sget w (F Fn.toN 0) = some x0) (h3 : G DG = true) (h4 : W (Int.ofNat ↑x0.toBitVec.toFin) DG = true) : EV F fns G W B Lp ⟨0, 0⟩ c8_7 { env := [(0, zs t), (5, SV.own 4 rows), (6, zi i), (7, zi k), (8, zb false), (9, zs w), (16, zs t), (44, uu), (60, uu), (63, zi i), (86, zb v), (160, uu), (161, uu)], fr := [(10, [])], hp := [], out := [] } = some (Ex.ret, { env := [(2, zn), (3, zi i), (4, zi 20), (5, SV.own 4 rows), (6, zi i), (7, zi k), (44, uu), (60, uu), (63, zi i), (123, zi i), (135, uu), (160, uu), (161, uu), (162, uu)], fr := [(10, [])], hp := [], out := [] }) := by
  cbv
  rw [h0]
  cbv
  rw [h1]
  cbv
  rw [h2]
  cbv
  rw [h3]
  cbv
  rw [h4]
  cbv
theorem w7fB_1 (F : Fns) (fns) (G : GT) (W : WT) (B : BT)  (Lp : LPT) (t w : List UInt8) (i k k2 : Int) (v al : Bool) (rows : List (List PV))  (x0 : UInt8) (h0 : F Fn.cmp BinOp.eql (Int.ofNat (F Fn.slen w)) 0 = false) (h1 : F Fn.cmp BinOp.leq 0 0 = true) (h2 : F Fn.sget w (F Fn.toN 0) = some x0) (h3 : G DG = true) (h4 : W (Int.ofNat ↑x0.toBitVec.toFin) DG = false) : EV F fns G W B Lp ⟨0, 0⟩ c8_7 { env := [(0, zs t), (5, SV.own 4 rows), (6, zi i), (7, zi k), (8, zb false), (9, zs w), (16, zs t), (44, uu), (60, uu), (63, zi i), (86, zb v), (160, uu), (161, uu)], fr := [(10, [])], hp := [], out := [] } = some (Ex.normal, { env := [(0, zs t), (5, SV.own 4 rows), (6, zi i), (7, zi k), (8, zb false), (9, zs w), (16, zs t), (44, uu), (60, uu), (63, zi i), (86, zb v), (122, zb false), (160, uu), (161, uu)], fr := [(10, [])], hp := [], out := [] }) := by
  cbv
  rw [h0]
  cbv
  rw [h1]
  cbv
  rw [h2]
  cbv
  rw [h3]
  cbv
  rw [h4]
  cbv
theorem w8fB_0 (F : Fns) (fns) (G : GT) (W : WT) (B : BT)  (Lp : LPT) (t w : List UInt8) (i k k2 : Int) (v al : Bool) (rows : List (List PV))   (h0 : F Fn.cmp BinOp.gtr (Int.ofNat (F Fn.slen w)) 16 = true) : EV F fns G W B Lp ⟨0, 0⟩ c8_8 { env := [(0, zs t), (5, SV.own 4 rows), (6, zi i), (7, zi k), (8, zb false), (9, zs w), (16, zs t), (44, uu), (60, uu), (63, zi i), (86, zb v), (122, zb false), (160, uu), (161, uu)], fr := [(10, [])], hp := [], out := [] } = some (Ex.ret, { env := [(2, zn), (3, zi i), (4, zi 6), (5, SV.own 4 rows), (6, zi i), (7, zi k), (44, uu), (60, uu), (63, zi i), (123, uu), (135, zi i), (160, uu), (161, uu), (162, uu)], fr := [(10, [])], hp := [], out := [] }) := by
  cbv
  rw [h0]
  cbv
theorem w8fB_1 (F : Fns) (fns) (G : GT) (W : WT) (B : BT)  (Lp : LPT) (t w : List UInt8) (i k k2 : Int) (v al : Bool) (rows : List (List PV))   (h0 : F Fn.cmp BinOp.gtr (Int.ofNat (F Fn.slen w)) 16 = false) : EV F fns G W B Lp ⟨0, 0⟩ c8_8 { env := [(0, zs t), (5, SV.own 4 rows), (6, zi i), (7, zi k), (8, zb false), (9, zs w), (16, zs t), (44, uu), (60, uu), (63, zi i), (86, zb v), (122, zb false), (160, uu), (161, uu)], fr := [(10, [])], hp := [], out := [] } = some (Ex.normal, { env := [(0, zs t), (5, SV.own 4 rows), (6, zi i), (7, zi k), (8, zb false), (9, zs w), (16, zs t), (44, uu), (60, uu), (63, zi i), (86, zb v), (134, zb false), (160, uu), (161, uu)], fr := [(10, [])], hp := [], out := [] }) := by
  cbv
  rw [h0]
  cbv
theorem w9fB_0 (F : Fns) (fns) (G : GT) (W : WT) (B : BT)  (Lp : LPT) (t w : List UInt8) (i k k2 : Int) (v al : Bool) (rows : List (List PV))    : EV F fns G W B Lp ⟨0, 0⟩ c8_9 { env := [(0, zs t), (5, SV.own 4 rows), (6, zi i), (7, zi k), (8, zb false), (9, zs w), (16, zs t), (44, uu), (60, uu), (63, zi i), (86, zb v), (134, zb false), (160, uu), (161, uu)], fr := [(10, [])], hp := [], out := [] } = some (Ex.normal, { env := [(0, zs t), (5, SV.own 4 rows), (6, zi i), (7, zi k), (8, zb false), (9, zs w), (10, SV.ptr { root := Root.st 0 10, off := 0, row := none }), (16, zs t), (44, uu), (60, uu), (63, zi i), (86, zb v), (160, uu), (161, uu)], fr := [(10, [zi 1, zs w, zi 0, zi i])], hp := [], out := [] }) := by
  cbv
theorem w10fB_0 (F : Fns) (fns) (G : GT) (W : WT) (B : BT)  (Lp : LPT) (t w : List UInt8) (i k k2 : Int) (v al : Bool) (rows : List (List PV)) (n j : Int)    : EV F fns G W B Lp ⟨0, 0⟩ c8_10 { env := [(0, zs t), (5, SV.own 4 rows), (6, zi i), (7, zi k), (8, zb false), (9, zs w), (10, SV.ptr { root := Root.st 0 10, off := 0, row := none }), (16, zs t), (44, uu), (60, uu), (63, zi i), (86, zb v), (160, uu), (161, uu)], fr := [(10, [zi 1, zs w, zi 0, zi i])], hp := [], out := [] } = some (Ex.normal, { env := [(0, zs t), (5, SV.own 4 rows), (6, zi i), (7, zi k), (8, zb false), (9, zs w), (10, SV.ptr { root := Root.st 0 10, off := 0, row := none }), (16, zs t), (44, uu), (60, uu), (63, zi i), (86, zb v), (139, zb false), (160, uu), (161, uu)], fr := [(10, [zi 1, zs w, zi 0, zi i])], hp := [], out := [] }) := by
  cbv
theorem it8jB_0 (F : Fns) (fns) (G : GT) (W : WT) (B : BT) (t w : List UInt8) (i k k2 : Int) (v al : Bool) (rows : List (List PV)) (n j : Int)   (h0 : F Fn.cmp BinOp.lss j (Int.ofNat (F Fn.slen w)) = false) : EV F fns G W B n2 ⟨0, 0⟩ b8j { env := [(0, zs t), (5, SV.own 4 rows), (6, zi i), (7, zi k), (9, zs w), (10, SV.ptr { root := Root.st 0 10, off := 0, row := none }), (11, zi j), (16, zs t), (44, uu), (60, uu), (63, zi i), (160, uu), (161, uu)], fr := [(10, [zi 2, zs w, zi n, zi i])], hp := [], out := [] } = some (Ex.exit 4, { env := [(0, zs t), (5, SV.own 4 rows), (6, zi i), (7, zi k), (9, zs w), (10, SV.ptr { root := Root.st 0 10, off := 0, row := none }), (11, zi j), (16, zs t), (44, uu), (60, uu), (63, zi i), (144, zb false), (160, uu), (161, uu)], fr := [(10, [zi 2, zs w, zi n, zi i])], hp := [], out := [] }) := by
  cbv
  rw [h0]
  cbv
theorem it8jB_1 (F : Fns) (fns) (G : GT) (W : WT) (B : BT) (t w : List UInt8) (i k k2 : Int) (v al : Bool) (rows : List (List PV)) (n j : Int)  (x0 : UInt8) (h0 : F Fn.cmp BinOp.lss j (Int.ofNat (F Fn.slen w)) = true) (h1 : F Fn.cmp BinOp.leq 0 j = true) (h2 : F Fn.sget w (F Fn.toN j) = some x0) : EV F fns G W B n2 ⟨0, 0⟩ b8j { env := [(0, zs t), (5, SV.own 4 rows), (6, zi i), (7, zi k), (9, zs w), (10, SV.ptr { root := Root.st 0 10, off := 0, row := none }), (11, zi j), (16, zs t), (44, uu), (60, uu), (63, zi i), (160, uu), (161, uu)], fr := [(10, [zi 2, zs w, zi n, zi i])], hp := [], out := [] } = some (Ex.normal, { env := [(0, zs t), (5, SV.own 4 rows), (6, zi i), (7, zi k), (9, zs w), (10, SV.ptr { root := Root.st 0 10, off := 0, row := none }), (11, SV.p (PV.int IntKind.i64 (F Fn.ar BinOp.add IntKind.i64 j 1))), (16, zs t), (44, uu), (60, uu), (63, zi i), (160, uu), (161, uu)], fr := [(10, [zi 2, zs w, SV.p (PV.int IntKind.i64 (F Fn.ar BinOp.sub IntKind.i64 (F Fn.ar BinOp.add IntKind.i64 (F Fn.ar BinOp.mul IntKind.i64 n 10) (F Fn.wrap IntKind.i64 (Int.ofNat x0.1.1.1))) 48)), zi i])], hp := [], out := [] }) := by
  cbv
  rw [h0]
  cbv
  rw [h1]
  cbv
  rw [h2]
  cbv
theorem w11tB_0 (F : Fns) (fns) (G : GT) (W : WT) (B : BT)  (Lp : LPT) (t w : List UInt8) (i k k2 : Int) (v al : Bool) (rows : List (List PV)) (n j : Int)   (h0 : F Fn.le (F Fn.add 0 (F Fn.rlen [[PV.int IntKind.i64 2, PV.str w, PV.int IntKind.i64 n, PV.int IntKind.i64 i]])) (F Fn.rlen [[PV.int IntKind.i64 2, PV.str w, PV.int IntKind.i64 n, PV.int IntKind.i64 i]]) = true) (h1 : F Fn.lens 4 (F Fn.rpart [[PV.int IntKind.i64 2, PV.str w, PV.int IntKind.i64 n, PV.int IntKind.i64 i]] 0 (F Fn.rlen [[PV.int IntKind.i64 2, PV.str w, PV.int IntKind.i64 n, PV.int IntKind.i64 i]])) = true) (h2 : F Fn.le (F Fn.add 0 (F Fn.rlen rows)) (F Fn.rlen rows) = true) (h3 : F Fn.afit (F Fn.rlen rows) (F Fn.rpart [[PV.int IntKind.i64 2, PV.str w, PV.int IntKind.i64 n, PV.int IntKind.i64 i]] 0 (F Fn.rlen [[PV.int IntKind.i64 2, PV.str w, PV.int IntKind.i64 n, PV.int IntKind.i64 i]])) 40 = true) : EV F fns G W B Lp ⟨0, 0⟩ c8_11 { env := [(0, zs t), (5, SV.own 4 rows), (6, zi i), (7, zi k), (9, zs w), (10, SV.ptr { root := Root.st 0 10, off := 0, row := none }), (11, zi j), (16, zs t), (44, uu), (60, uu), (63, zi i), (144, zb false), (160, uu), (161, uu)], fr := [(10, [zi 2, zs w, zi n, zi i])], hp := [], out := [] } = some (Ex.normal, { env := [(0, zs t), (5, SV.own 4 (F Fn.rcat (F Fn.rpart rows 0 (F Fn.rlen rows)) (F Fn.rpart [[PV.int IntKind.i64 2, PV.str w, PV.int IntKind.i64 n, PV.int IntKind.i64 i]] 0 (F Fn.rlen [[PV.int IntKind.i64 2, PV.str w, PV.int IntKind.i64 n, PV.int IntKind.i64 i]])))), (6, zi i), (7, zi k), (16, zs t), (44, uu), (60, uu), (63, zi i), (160, uu), (161, uu)], fr := [(10, [])], hp := [], out := [] }) := by
  cbv
  rw [h0]
  cbv
  rw [h1]
  cbv
  rw [h2]
  cbv
  rw [h3]
  cbv
theorem w11fB_0 (F : Fns) (fns) (G : GT) (W : WT) (B : BT)  (Lp : LPT) (t w : List UInt8) (i k k2 : Int) (v al : Bool) (rows : List (List PV)) (n j : Int)   (h0 : F Fn.le (F Fn.add 0 (F Fn.rlen [[PV.int IntKind.i64 1, PV.str w, PV.int IntKind.i64 0, PV.int IntKind.i64 i]])) (F Fn.rlen [[PV.int IntKind.i64 1, PV.str w, PV.int IntKind.i64 0, PV.int IntKind.i64 i]]) = true) (h1 : F Fn.lens 4 (F Fn.rpart [[PV.int IntKind.i64 1, PV.str w, PV.int IntKind.i64 0, PV.int IntKind.i64 i]] 0 (F Fn.rlen [[PV.int IntKind.i64 1, PV.str w, PV.int IntKind.i64 0, PV.int IntKind.i64 i]])) = true) (h2 : F Fn.le (F Fn.add 0 (F Fn.rlen rows)) (F Fn.rlen rows) = true) (h3 : F Fn.afit (F Fn.rlen rows) (F Fn.rpart [[PV.int IntKind.i64 1, PV.str w, PV.int IntKind.i64 0, PV.int IntKind.i64 i]] 0 (F Fn.rlen [[PV.int IntKind.i64 1, PV.str w, PV.int IntKind.i64 0, PV.int IntKind.i64 i]])) 40 = true) : EV F fns G W B Lp ⟨0, 0⟩ c8_11 { env := [(0, zs t), (5, SV.own 4 rows), (6, zi i), (7, zi k), (8, zb false), (9, zs w), (10, SV.ptr { root := Root.st 0 10, off := 0, row := none }), (16, zs t), (44, uu), (60, uu), (63, zi i), (86, zb v), (139, zb false), (160, uu), (161, uu)], fr := [(10, [zi 1, zs w, zi 0, zi i])], hp := [], out := [] } = some (Ex.normal, { env := [(0, zs t), (5, SV.own 4 (F Fn.rcat (F Fn.rpart rows 0 (F Fn.rlen rows)) (F Fn.rpart [[PV.int IntKind.i64 1, PV.str w, PV.int IntKind.i64 0, PV.int IntKind.i64 i]] 0 (F Fn.rlen [[PV.int IntKind.i64 1, PV.str w, PV.int IntKind.i64 0, PV.int IntKind.i64 i]])))), (6, zi i), (7, zi k), (16, zs t), (44, uu), (60, uu), (63, zi i), (160, uu), (161, uu)], fr := [(10, [])], hp := [], out := [] }) := by
  cbv
  rw [h0]
  cbv
  rw [h1]
  cbv
  rw [h2]
  cbv
  rw [h3]
  cbv
theorem w12B_0 (F : Fns) (fns) (G : GT) (W : WT) (B : BT)  (Lp : LPT) (t w : List UInt8) (i k k2 : Int) (v al : Bool) (rows : List (List PV))    : EV F fns G W B Lp ⟨0, 0⟩ c8_12 { env := [(0, zs t), (5, SV.own 4 rows), (6, zi i), (7, zi k), (16, zs t), (44, uu), (60, uu), (63, zi i), (160, uu), (161, uu)], fr := [(10, [])], hp := [], out := [] } = some (Ex.normal, { env := [(0, zs t), (5, SV.own 4 rows), (6, zi k), (7, zi k), (16, zs t), (44, uu), (60, uu), (63, zi i), (160, uu), (161, zi k)], fr := [(10, [])], hp := [], out := [] }) := by
  cbv
theorem sem8xB_0 (F : Fns) (fns) (G : GT) (W : WT) (B : BT) (Lp : LPT) (s t : List UInt8) (i k k0 k1 k2 : Int) (rows : List (List PV))  (h0 : F Fn.cmp BinOp.gtr (Int.ofNat (F Fn.slen s)) 4096 = true) : @S.fnS (symA F) (T' fns (look (ps8 G W B))) n5 Lp ⟨0, 0⟩ vf8 [.p (.str s)] [] [] = some ((SV.tup [zn, zi 0, zi 6], [], []), []) := by
  cbv
  rw [h0]
  cbv
theorem sem8xB_1 (F : Fns) (fns) (G : GT) (W : WT) (B : BT) (Lp : LPT) (s t : List UInt8) (i k k0 k1 k2 : Int) (rows : List (List PV))  (h0 : F Fn.cmp BinOp.gtr (Int.ofNat (F Fn.slen s)) 4096 = false) (h1 : G s = true) (h2 : Lp b8 { env := [(0, SV.p (PV.str (B s))), (5, zn), (6, zi 0), (7, uu), (16, SV.p (PV.str (B s))), (44, uu), (60, uu), (63, uu), (160, uu), (161, uu)], fr := [(10, [])], hp := [], out := [] } = some (Ex.exit 0, { env := [(0, zs t), (5, SV.own 4 rows), (6, zi i), (7, uu), (16, zs t), (20, zb false), (44, uu), (60, uu), (63, uu), (160, uu), (161, uu)], fr := [(10, [])], hp := [], out := [] })) (h3 : F Fn.eqn (F Fn.rlen rows) (F Fn.rlen rows) = true) : @S.fnS (symA F) (T' fns (look (ps8 G W B))) n5 Lp ⟨0, 0⟩ vf8 [.p (.str s)] [] [] = some ((SV.tup [SV.own 4 rows, zi 0, zi 0], [], []), []) := by
  cbv
  rw [h0]
  cbv
  rw [h1]
  cbv
  rw [h2]
  cbv
  rw [if_pos (show (F Fn.eqn (F Fn.rlen rows) (F Fn.rlen rows) = true) from h3)]
  cbv
theorem sem8yB_0 (F : Fns) (fns) (G : GT) (W : WT) (B : BT) (Lp : LPT) (s t : List UInt8) (i k k0 k1 k2 : Int) (rows : List (List PV))  (h0 : F Fn.cmp BinOp.gtr (Int.ofNat (F Fn.slen s)) 4096 = true) : @S.fnS (symA F) (T' fns (look (ps8 G W B))) n5 Lp ⟨0, 0⟩ vf8 [.p (.str s)] [] [] = some ((SV.tup [zn, zi 0, zi 6], [], []), []) := by
  cbv
  rw [h0]
  cbv
theorem sem8yB_1 (F : Fns) (fns) (G : GT) (W : WT) (B : BT) (Lp : LPT) (s t : List UInt8) (i k k0 k1 k2 : Int) (rows : List (List PV))  (h0 : F Fn.cmp BinOp.gtr (Int.ofNat (F Fn.slen s)) 4096 = false) (h1 : G s = true) (h2 : Lp b8 { env := [(0, SV.p (PV.str (B s))), (5, zn), (6, zi 0), (7, uu), (16, SV.p (PV.str (B s))), (44, uu), (60, uu), (63, uu), (160, uu), (161, uu)], fr := [(10, [])], hp := [], out := [] } = some (Ex.ret, { env := [(2, zn), (3, zi i), (4, zi 20), (5, SV.own 4 rows), (6, zi i), (7, zi k), (44, uu), (60, uu), (63, zi i), (123, zi i), (135, uu), (160, uu), (161, uu), (162, uu)], fr := [(10, [])], hp := [], out := [] })) : @S.fnS (symA F) (T' fns (look (ps8 G W B))) n5 Lp ⟨0, 0⟩ vf8 [.p (.str s)] [] [] = some ((SV.tup [zn, zi i, zi 20], [], []), []) := by
  cbv
  rw [h0]
  cbv
  rw [h1]
  cbv
  rw [h2]
  cbv
theorem sem8zB_0 (F : Fns) (fns) (G : GT) (W : WT) (B : BT) (Lp : LPT) (s t : List UInt8) (i k k0 k1 k2 : Int) (rows : List (List PV))  (h0 : F Fn.cmp BinOp.gtr (Int.ofNat (F Fn.slen s)) 4096 = true) : @S.fnS (symA F) (T' fns (look (ps8 G W B))) n5 Lp ⟨0, 0⟩ vf8 [.p (.str s)] [] [] = some ((SV.tup [zn, zi 0, zi 6], [], []), []) := by
  cbv
  rw [h0]
  cbv
theorem sem8zB_1 (F : Fns) (fns) (G : GT) (W : WT) (B : BT) (Lp : LPT) (s t : List UInt8) (i k k0 k1 k2 : Int) (rows : List (List PV))  (h0 : F Fn.cmp BinOp.gtr (Int.ofNat (F Fn.slen s)) 4096 = false) (h1 : G s = true) (h2 : Lp b8 { env := [(0, SV.p (PV.str (B s))), (5, zn), (6, zi 0), (7, uu), (16, SV.p (PV.str (B s))), (44, uu), (60, uu), (63, uu), (160, uu), (161, uu)], fr := [(10, [])], hp := [], out := [] } = some (Ex.ret, { env := [(2, zn), (3, zi i), (4, zi 6), (5, SV.own 4 rows), (6, zi i), (7, zi k), (44, uu), (60, uu), (63, zi i), (123, uu), (135, zi i), (160, uu), (161, uu), (162, uu)], fr := [(10, [])], hp := [], out := [] })) : @S.fnS (symA F) (T' fns (look (ps8 G W B))) n5 Lp ⟨0, 0⟩ vf8 [.p (.str s)] [] [] = some ((SV.tup [zn, zi i, zi 6], [], []), []) := by
  cbv
  rw [h0]
  cbv
  rw [h1]
  cbv
  rw [h2]
  cbv
theorem w3C_0 (F : Fns) (fns) (G : GT) (W : WT) (B : BT)  (Lp : LPT) (t : List UInt8) (i k0 k1 k2 : Int) (rows : List (List PV))    : EV F fns G W B Lp ⟨0, 0⟩ c8_3 { env := [(0, zs t), (5, SV.own 4 rows), (6, zi i), (7, zi k0), (16, zs t), (44, uu), (50, zb false), (60, uu), (63, zi k1), (160, uu), (161, zi k2)], fr := [(10, [])], hp := [], out := [] } = some (Ex.normal, { env := [(0, zs t), (5, SV.own 4 rows), (6, zi i), (7, zi i), (16, zs t), (44, uu), (60, uu), (63, zi i), (160, uu), (161, zi k2)], fr := [(10, [])], hp := [], out := [] }) := by
  cbv
theorem w4C_0 (F : Fns) (fns) (G : GT) (W : WT) (B : BT)  (Lp : LPT) (t : List UInt8) (i k0 k1 k2 : Int) (rows : List (List PV))    : EV F fns G W B Lp ⟨0, 0⟩ c8_4 { env := [(0, zs t), (5, SV.own 4 rows), (6, zi i), (7, zi i), (16, zs t), (44, uu), (60, uu), (63, zi i), (160, uu), (161, zi k2)], fr := [(10, [])], hp := [], out := [] } = some (Ex.normal, { env := [(0, zs t), (5, SV.own 4 rows), (6, zi i), (7, zi i), (8, zb true), (16, zs t), (44, uu), (60, uu), (63, zi i), (86, uu), (160, uu), (161, zi k2)], fr := [(10, [])], hp := [], out := [] }) := by
  cbv
theorem it8kDC_0 (F : Fns) (fns) (G : GT) (W : WT) (B : BT) (t w : List UInt8) (i k k2 : Int) (v al : Bool) (rows : List (List PV))   (h0 : F Fn.cmp BinOp.lss k (Int.ofNat (F Fn.slen t)) = false) : EV F fns G W B n2 ⟨0, 0⟩ b8k { env := [(0, zs t), (5, SV.own 4 rows), (6, zi i), (7, zi k), (8, zb true), (16, zs t), (44, uu), (60, uu), (63, zi i), (86, uu), (160, uu), (161, zi k2)], fr := [(10, [])], hp := [], out := [] } = some (Ex.exit 2, { env := [(0, zs t), (5, SV.own 4 rows), (6, zi i), (7, zi k), (8, zb true), (16, zs t), (44, uu), (60, uu), (63, zi i), (79, zb false), (86, uu), (160, uu), (161, zi k2)], fr := [(10, [])], hp := [], out := [] }) := by
  cbv
  rw [h0]
  cbv
theorem it8kDC_1 (F : Fns) (fns) (G : GT) (W : WT) (B : BT) (t w : List UInt8) (i k k2 : Int) (v al : Bool) (rows : List (List PV))  (x0 : UInt8) (h0 : F Fn.cmp BinOp.lss k (Int.ofNat (F Fn.slen t)) = true) (h1 : F Fn.cmp BinOp.leq 0 k = true) (h2 : F Fn.sget t (F Fn.toN k) = some x0) (h3 : G LT = true) (h4 : W (Int.ofNat ↑x0.toBitVec.toFin) LT = true) (h5 : F Fn.cmp BinOp.leq 0 k = true) (h6 : F Fn.sget t (F Fn.toN k) = some x0) (h7 : G DG = true) : EV F fns G W B n2 ⟨0, 0⟩ b8k { env := [(0, zs t), (5, SV.own 4 rows), (6, zi i), (7, zi k), (8, zb true), (16, zs t), (44, uu), (60, uu), (63, zi i), (86, uu), (160, uu), (161, zi k2)], fr := [(10, [])], hp := [], out := [] } = some (Ex.normal, { env := [(0, zs t), (5, SV.own 4 rows), (6, zi i), (7, SV.p (PV.int IntKind.i64 (F Fn.ar BinOp.add IntKind.i64 k 1))), (8, SV.p (PV.bool (W (Int.ofNat ↑x0.toBitVec.toFin) DG))), (16, zs t), (44, uu), (60, uu), (63, zi i), (86, SV.p (PV.bool (W (Int.ofNat ↑x0.toBitVec.toFin) DG))), (160, uu), (161, zi k2)], fr := [(10, [])], hp := [], out := [] }) := by
  cbv
  rw [h0]
  cbv
  rw [h1]
  cbv
  rw [h2]
  cbv
  rw [h3]
  cbv
  rw [h4]
  cbv
  rw [h5]
  cbv
  rw [h6]
  cbv
  rw [h7]
  cbv
theorem it8kDC_2 (F : Fns) (fns) (G : GT) (W : WT) (B : BT) (t w : List UInt8) (i k k2 : Int) (v al : Bool) (rows : List (List PV))  (x0 : UInt8) (h0 : F Fn.cmp BinOp.lss k (Int.ofNat (F Fn.slen t)) = true) (h1 : F Fn.cmp BinOp.leq 0 k = true) (h2 : F Fn.sget t (F Fn.toN k) = some x0) (h3 : G LT = true) (h4 : W (Int.ofNat ↑x0.toBitVec.toFin) LT = false) (h5 : F Fn.cmp BinOp.leq 0 k = true) (h6 : F Fn.sget t (F Fn.toN k) = some x0) (h7 : G DG = true) (h8 : W (Int.ofNat ↑x0.toBitVec.toFin) DG = false) : EV F fns G W B n2 ⟨0, 0⟩ b8k { env := [(0, zs t), (5, SV.own 4 rows), (6, zi i), (7, zi k), (8, zb true), (16, zs t), (44, uu), (60, uu), (63, zi i), (86, uu), (160, uu), (161, zi k2)], fr := [(10, [])], hp := [], out := [] } = some (Ex.exit 2, { env := [(0, zs t), (5, SV.own 4 rows), (6, zi i), (7, zi k), (8, zb true), (16, zs t), (44, uu), (60, uu), (63, zi i), (79, zb false), (86, uu), (160, uu), (161, zi k2)], fr := [(10, [])], hp := [], out := [] }) := by
  cbv
  rw [h0]
  cbv
  rw [h1]
  cbv
  rw [h2]
  cbv
  rw [h3]
  cbv
  rw [h4]
  cbv
  rw [h5]
  cbv
  rw [h6]
  cbv
  rw [h7]
  cbv
  rw [h8]
  cbv
theorem it8kDC_3 (F : Fns) (fns) (G : GT) (W : WT) (B : BT) (t w : List UInt8) (i k k2 : Int) (v al : Bool) (rows : List (List PV))  (x0 : UInt8) (h0 : F Fn.cmp BinOp.lss k (Int.ofNat (F Fn.slen t)) = true) (h1 : F Fn.cmp BinOp.leq 0 k = true) (h2 : F Fn.sget t (F Fn.toN k) = some x0) (h3 : G LT = true) (h4 : W (Int.ofNat ↑x0.toBitVec.toFin) LT = false) (h5 : F Fn.cmp BinOp.leq 0 k = true) (h6 : F Fn.sget t (F Fn.toN k) = some x0) (h7 : G DG = true) (h8 : W (Int.ofNat ↑x0.toBitVec.toFin) DG = true) (h9 : F Fn.cmp BinOp.leq 0 k = true) (h10 : F Fn.sget t (F Fn.toN k) = some x0) (h11 : G DG = true) : EV F fns G W B n2 ⟨0, 0⟩ b8k { env := [(0, zs t), (5, SV.own 4 rows), (6, zi i), (7, zi k), (8, zb true), (16, zs t), (44, uu), (60, uu), (63, zi i), (86, uu), (160, uu), (161, zi k2)], fr := [(10, [])], hp := [], out := [] } = some (Ex.normal, { env := [(0, zs t), (5, SV.own 4 rows), (6, zi i), (7, SV.p (PV.int IntKind.i64 (F Fn.ar BinOp.add IntKind.i64 k 1))), (8, SV.p (PV.bool (true))), (16, zs t), (44, uu), (60, uu), (63, zi i), (86, SV.p (PV.bool (true))), (160, uu), (161, zi k2)], fr := [(10, [])], hp := [], out := [] }) := by
  cbv
  rw [h0]
  cbv
  rw [h1]
  cbv
  rw [h2]
  cbv
  rw [h3]
  cbv
  rw [h4]
  cbv
  rw [h5]
  cbv
  rw [h6]
  cbv
  rw [h7]
  cbv
  rw [h8]
  cbv
  rw [h9]
  cbv
  rw [h10]
  cbv
  rw [h11]
  cbv
  rw [h8]
theorem it8kEtC_0 (F : Fns) (fns) (G : GT) (W : WT) (B : BT) (t w : List UInt8) (i k k2 : Int) (v al : Bool) (rows : List (List PV))   (h0 : F Fn.cmp BinOp.lss k (Int.ofNat (F Fn.slen t)) = false) : EV F fns G W B n2 ⟨0, 0⟩ b8k { env := [(0, zs t), (5, SV.own 4 rows), (6, zi i), (7, zi k), (8, zb true), (16, zs t), (44, uu), (60, uu), (63, zi i), (86, zb v), (160, uu), (161, zi k2)], fr := [(10, [])], hp := [], out := [] } = some (Ex.exit 2, { env := [(0, zs t), (5, SV.own 4 rows), (6, zi i), (7, zi k), (8, zb true), (16, zs t), (44, uu), (60, uu), (63, zi i), (79, zb false), (86, zb v), (160, uu), (161, zi k2)], fr := [(10, [])], hp := [], out := [] }) := by
  cbv
  rw [h0]
  cbv
theorem it8kEtC_1 (F : Fns) (fns) (G : GT) (W : WT) (B : BT) (t w : List UInt8) (i k k2 : Int) (v al : Bool) (rows : List (List PV))  (x0 : UInt8) (h0 : F Fn.cmp BinOp.lss k (Int.ofNat (F Fn.slen t)) = true) (h1 : F Fn.cmp BinOp.leq 0 k = true) (h2 : F Fn.sget t (F Fn.toN k) = some x0) (h3 : G LT = true) (h4 : W (Int.ofNat ↑x0.toBitVec.toFin) LT = true) (h5 : F Fn.cmp BinOp.leq 0 k = true) (h6 : F Fn.sget t (F Fn.toN k) = some x0) (h7 : G DG = true) : EV F fns G W B n2 ⟨0, 0⟩ b8k { env := [(0, zs t), (5, SV.own 4 rows), (6, zi i), (7, zi k), (8, zb true), (16, zs t), (44, uu), (60, uu), (63, zi i), (86, zb v), (160, uu), (161, zi k2)], fr := [(10, [])], hp := [], out := [] } = some (Ex.normal, { env := [(0, zs t), (5, SV.own 4 rows), (6, zi i), (7, SV.p (PV.int IntKind.i64 (F Fn.ar BinOp.add IntKind.i64 k 1))), (8, SV.p (PV.bool (W (Int.ofNat ↑x0.toBitVec.toFin) DG))), (16, zs t), (44, uu), (60, uu), (63, zi i), (86, SV.p (PV.bool (W (Int.ofNat ↑x0.toBitVec.toFin) DG))), (160, uu), (161, zi k2)], fr := [(10, [])], hp := [], out := [] }) := by
  cbv
  rw [h0]
  cbv
  rw [h1]
  cbv
  rw [h2]
  cbv
  rw [h3]
  cbv
  rw [h4]
  cbv
  rw [h5]
  cbv
  rw [h6]
  cbv
  rw [h7]
  cbv
theorem it8kEtC_2 (F : Fns) (fns) (G : GT) (W : WT) (B : BT) (t w : List UInt8) (i k k2 : Int) (v al : Bool) (rows : List (List PV))  (x0 : UInt8) (h0 : F Fn.cmp BinOp.lss k (Int.ofNat (F Fn.slen t)) = true) (h1 : F Fn.cmp BinOp.leq 0 k = true) (h2 : F Fn.sget t (F Fn.toN k) = some x0) (h3 : G LT = true) (h4 : W (Int.ofNat ↑x0.toBitVec.toFin) LT = false) (h5 : F Fn.cmp BinOp.leq 0 k = true) (h6 : F Fn.sget t (F Fn.toN k) = some x0) (h7 : G DG = true) (h8 : W (Int.ofNat ↑x0.toBitVec.toFin) DG = false) : EV F fns G W B n2 ⟨0, 0⟩ b8k { env := [(0, zs t), (5, SV.own 4 rows), (6, zi i), (7, zi k), (8, zb true), (16, zs t), (44, uu), (60, uu), (63, zi i), (86, zb v), (160, uu), (161, zi k2)], fr := [(10, [])], hp := [], out := [] } = some (Ex.exit 2, { env := [(0, zs t), (5, SV.own 4 rows), (6, zi i), (7, zi k), (8, zb true), (16, zs t), (44, uu), (60, uu), (63, zi i), (79, zb false), (86, zb v), (160, uu), (161, zi k2)], fr := [(10, [])], hp := [], out := [] }) := by
  cbv
  rw [h0]
  cbv
  rw [h1]
  cbv
  rw [h2]
  cbv
  rw [h3]
  cbv
  rw [h4]
  cbv
  rw [h5]
  cbv
  rw [h6]
  cbv
  rw [h7]
  cbv
  rw [h8]
  cbv
theorem it8kEtC_3 (F : Fns) (fns) (G : GT) (W : WT) (B : BT) (t w : List UInt8) (i k k2 : Int) (v al : Bool) (rows : List (List PV))  (x0 : UInt8) (h0 : F Fn.cmp BinOp.lss k (Int.ofNat (F Fn.slen t)) = true) (h1 : F Fn.cmp BinOp.leq 0 k = true) (h2 : F Fn.sget t (F Fn.toN k) = some x0) (h3 : G LT = true) (h4 : W (Int.ofNat ↑x0.toBitVec.toFin) LT = false) (h5 : F Fn.cmp BinOp.leq 0 k = true) (h6 : F Fn.sget t (F Fn.toN k) = some x0) (h7 : G DG = true) (h8 : W (Int.ofNat ↑x0.toBitVec.toFin) DG = true) (h9 : F Fn.cmp BinOp.leq 0 k = true) (h10 : F Fn.sget t (F Fn.toN k) = some x0) (h11 : G DG = true) : EV F fns G W B n2 ⟨0, 0⟩ b8k { env := [(0, zs t), (5, SV.own 4 rows), (6, zi i), (7, zi k), (8, zb true), (16, zs t), (44, uu), (60, uu), (63, zi i), (86, zb v), (160, uu), (161, zi k2)], fr := [(10, [])], hp := [], out := [] } = some (Ex.normal, { env := [(0, zs t), (5, SV.own 4 rows), (6, zi i), (7, SV.p (PV.int IntKind.i64 (F Fn.ar BinOp.add IntKind.i64 k 1))), (8, SV.p (PV.bool (true))), (16, zs t), (44, uu), (60, uu), (63, zi i), (86, SV.p (PV.bool (true))), (160, uu), (161, zi k2)], fr := [(10, [])], hp := [], out := [] }) := by
  cbv
  rw [h0]
  cbv
  rw [h1]
  cbv
  rw [h2]
  cbv
  rw [h3]
  cbv
  rw [h4]
  cbv
  rw [h5]
  cbv
  rw [h6]
  cbv
  rw [h7]
  cbv
  rw [h8]
  cbv
  rw [h9]
  cbv
  rw [h10]
  cbv
  rw [h11]
  cbv
  rw [h8]
theorem it8kEfC_0 (F : Fns) (fns) (G : GT) (W : WT) (B : BT) (t w : List UInt8) (i k k2 : Int) (v al : Bool) (rows : List (List PV))   (h0 : F Fn.cmp BinOp.lss k (Int.ofNat (F Fn.slen t)) = false) : EV F fns G W B n2 ⟨0, 0⟩ b8k { env := [(0, zs t), (5, SV.own 4 rows), (6, zi i), (7, zi k), (8, zb false), (16, zs t), (44, uu), (60, uu), (63, zi i), (86, zb v), (160, uu), (161, zi k2)], fr := [(10, [])], hp := [], out := [] } = some (Ex.exit 2, { env := [(0, zs t), (5, SV.own 4 rows), (6, zi i), (7, zi k), (8, zb false), (16, zs t), (44, uu), (60, uu), (63, zi i), (79, zb false), (86, zb v), (160, uu), (161, zi k2)], fr := [(10, [])], hp := [], out := [] }) := by
  cbv
  rw [h0]
  cbv
theorem it8kEfC_1 (F : Fns) (fns) (G : GT) (W : WT) (B : BT) (t w : List UInt8) (i k k2 : Int) (v al : Bool) (rows : List (List PV))  (x0 : UInt8) (h0 : F Fn.cmp BinOp.lss k (Int.ofNat (F Fn.slen t)) = true) (h1 : F Fn.cmp BinOp.leq 0 k = true) (h2 : F Fn.sget t (F Fn.toN k) = some x0) (h3 : G LT = true) (h4 : W (Int.ofNat ↑x0.toBitVec.toFin) LT = true) : EV F fns G W B n2 ⟨0, 0⟩ b8k { env := [(0, zs t), (5, SV.own 4 rows), (6, zi i), (7, zi k), (8, zb false), (16, zs t), (44, uu), (60, uu), (63, zi i), (86, zb v), (160, uu), (161, zi k2)], fr := [(10, [])], hp := [], out := [] } = some (Ex.normal, { env := [(0, zs t), (5, SV.own 4 rows), (6, zi i), (7, SV.p (PV.int IntKind.i64 (F Fn.ar BinOp.add IntKind.i64 k 1))), (8, zb false), (16, zs t), (44, uu), (60, uu), (63, zi i), (86, zb false), (160, uu), (161, zi k2)], fr := [(10, [])], hp := [], out := [] }) := by
  cbv
  rw [h0]
  cbv
  rw [h1]
  cbv
  rw [h2]
  cbv
  rw [h3]
  cbv
  rw [h4]
  cbv
theorem it8kEfC_2 (F : Fns) (fns) (G : GT) (W : WT) (B : BT) (t w : List UInt8) (i k k2 : Int) (v al : Bool) (rows : List (List PV))  (x0 : UInt8) (h0 : F Fn.cmp BinOp.lss k (Int.ofNat (F Fn.slen t)) = true) (h1 : F Fn.cmp BinOp.leq 0 k = true) (h2 : F Fn.sget t (F Fn.toN k) = some x0) (h3 : G LT = true) (h4 : W (Int.ofNat ↑x0.toBitVec.toFin) LT = false) (h5 : F Fn.cmp BinOp.leq 0 k = true) (h6 : F Fn.sget t (F Fn.toN k) = some x0) (h7 : G DG = true) (h8 : W (Int.ofNat ↑x0.toBitVec.toFin) DG = true) : EV F fns G W B n2 ⟨0, 0⟩ b8k { env := [(0, zs t), (5, SV.own 4 rows), (6, zi i), (7, zi k), (8, zb false), (16, zs t), (44, uu), (60, uu), (63, zi i), (86, zb v), (160, uu), (161, zi k2)], fr := [(10, [])], hp := [], out := [] } = some (Ex.normal, { env := [(0, zs t), (5, SV.own 4 rows), (6, zi i), (7, SV.p (PV.int IntKind.i64 (F Fn.ar BinOp.add IntKind.i64 k 1))), (8, zb false), (16, zs t), (44, uu), (60, uu), (63, zi i), (86, zb false), (160, uu), (161, zi k2)], fr := [(10, [])], hp := [], out := [] }) := by
  cbv
  rw [h0]
  cbv
  rw [h1]
  cbv
  rw [h2]
  cbv
  rw [h3]
  cbv
  rw [h4]
  cbv
  rw [h5]
  cbv
  rw [h6]
  cbv
  rw [h7]
  cbv
  rw [h8]
  cbv
theorem it8kEfC_3 (F : Fns) (fns) (G : GT) (W : WT) (B : BT) (t w : List UInt8) (i k k2 : Int) (v al : Bool) (rows : List (List PV))  (x0 : UInt8) (h0 : F Fn.cmp BinOp.lss k (Int.ofNat (F Fn.slen t)) = true) (h1 : F Fn.cmp BinOp.leq 0 k = true) (h2 : F Fn.sget t (F Fn.toN k) = some x0) (h3 : G LT = true) (h4 : W (Int.ofNat ↑x0.toBitVec.toFin) LT = false) (h5 : F Fn.cmp BinOp.leq 0 k = true) (h6 : F Fn.sget t (F Fn.toN k) = some x0) (h7 : G DG = true) (h8 : W (Int.ofNat ↑x0.toBitVec.toFin) DG = false) : EV F fns G W B n2 ⟨0, 0⟩ b8k { env := [(0, zs t), (5, SV.own 4 rows), (6, zi i), (7, zi k), (8, zb false), (16, zs t), (44, uu), (60, uu), (63, zi i), (86, zb v), (160, uu), (161, zi k2)], fr := [(10, [])], hp := [], out := [] } = some (Ex.exit 2, { env := [(0, zs t), (5, SV.own 4 rows), (6, zi i), (7, zi k), (8, zb false), (16, zs t), (44, uu), (60, uu), (63, zi i), (79, zb false), (86, zb v), (160, uu), (161, zi k2)], fr := [(10, [])], hp := [], out := [] }) := by
  cbv
  rw [h0]
  cbv
  rw [h1]
  cbv
  rw [h2]
  cbv
  rw [h3]
  cbv
  rw [h4]
  cbv
  rw [h5]
  cbv
  rw [h6]
  cbv
  rw [h7]
  cbv
  rw [h8]
  cbv
theorem w5DC_0 (F : Fns) (fns) (G : GT) (W : WT) (B : BT)  (Lp : LPT) (t w : List UInt8) (i k k2 : Int) (v al : Bool) (rows : List (List PV))   (h0 : Lp b8k { env := [(0, zs t), (5, SV.own 4 rows), (6, zi i), (7, zi i), (8, zb true), (16, zs t), (44, uu), (60, uu), (63, zi i), (86, uu), (160, uu), (161, zi k2)], fr := [(10, [])], hp := [], out := [] } = some (Ex.exit 2, { env := [(0, zs t), (5, SV.own 4 rows), (6, zi i), (7, zi k), (8, zb al), (16, zs t), (44, uu), (60, uu), (63, zi i), (79, zb false), (86, uu), (160, uu), (161, zi k2)], fr := [(10, [])], hp := [], out := [] })) : EV F fns G W B Lp ⟨0, 0⟩ c8_5 { env := [(0, zs t), (5, SV.own 4 rows), (6, zi i), (7, zi i), (8, zb true), (16, zs t), (44, uu), (60, uu), (63, zi i), (86, uu), (160, uu), (161, zi k2)], fr := [(10, [])], hp := [], out := [] } = some (Ex.normal, { env := [(0, zs t), (5, SV.own 4 rows), (6, zi i), (7, zi k), (8, zb al), (16, zs t), (44, uu), (60, uu), (63, zi i), (79, zb false), (86, uu), (160, uu), (161, zi k2)], fr := [(10, [])], hp := [], out := [] }) := by
  cbv
  rw [h0]
  cbv
theorem w6DC_0 (F : Fns) (fns) (G : GT) (W : WT) (B : BT)  (Lp : LPT) (t w : List UInt8) (i k k2 : Int) (v al : Bool) (rows : List (List PV))   (h0 : F Fn.cmp BinOp.leq 0 k = true) (h1 : F Fn.cmp BinOp.leq 0 i = true) (h2 : F Fn.le (F Fn.toN i) (F Fn.toN k) = true) (h3 : F Fn.le (F Fn.toN k) (F Fn.slen t) = true) : EV F fns G W B Lp ⟨0, 0⟩ c8_6 { env := [(0, zs t), (5, SV.own 4 rows), (6, zi i), (7, zi k), (8, zb al), (16, zs t), (44, uu), (60, uu), (63, zi i), (79, zb false), (86, uu), (160, uu), (161, zi k2)], fr := [(10, [])], hp := [], out := [] } = some (Ex.normal, { env := [(0, zs t), (5, SV.own 4 rows), (6, zi i), (7, zi k), (8, zb al), (9, SV.p (PV.str (F Fn.scut t (F Fn.toN i) (F Fn.toN k)))), (16, zs t), (44, uu), (60, uu), (63, zi i), (86, uu), (160, uu), (161, zi k2)], fr := [(10, [])], hp := [], out := [] }) := by
  cbv
  rw [h0]
  cbv
  rw [h1]
  cbv
  rw [h2]
  cbv
  rw [h3]
  cbv
theorem w5EC_0 (F : Fns) (fns) (G : GT) (W : WT) (B : BT)  (Lp : LPT) (t w : List UInt8) (i k k2 : Int) (v al : Bool) (rows : List (List PV))   (h0 : Lp b8k { env := [(0, zs t), (5, SV.own 4 rows), (6, zi i), (7, zi i), (8, zb true), (16, zs t), (44, uu), (60, uu), (63, zi i), (86, uu), (160, uu), (161, zi k2)], fr := [(10, [])], hp := [], out := [] } = some (Ex.exit 2, { env := [(0, zs t), (5, SV.own 4 rows), (6, zi i), (7, zi k), (8, zb al), (16, zs t), (44, uu), (60, uu), (63, zi i), (79, zb false), (86, zb v), (160, uu), (161, zi k2)], fr := [(10, [])], hp := [], out := [] })) : EV F fns G W B Lp ⟨0, 0⟩ c8_5 { env := [(0, zs t), (5, SV.own 4 rows), (6, zi i), (7, zi i), (8, zb true), (16, zs t), (44, uu), (60, uu), (63, zi i), (86, uu), (160, uu), (161, zi k2)], fr := [(10, [])], hp := [], out := [] } = some (Ex.normal, { env := [(0, zs t), (5, SV.own 4 rows), (6, zi i), (7, zi k), (8, zb al), (16, zs t), (44, uu), (60, uu), (63, zi i), (79, zb false), (86, zb v), (160, uu), (161, zi k2)], fr := [(10, [])], hp := [], out := [] }) := by
  cbv
  rw [h0]
  cbv
theorem w6EC_0 (F : Fns) (fns) (G : GT) (W : WT) (B : BT)  (Lp : LPT) (t w : List UInt8) (i k k2 : Int) (v al : Bool) (rows : List (List PV))   (h0 : F Fn.cmp BinOp.leq 0 k = true) (h1 : F Fn.cmp BinOp.leq 0 i = true) (h2 : F Fn.le (F Fn.toN i) (F Fn.toN k) = true) (h3 : F Fn.le (F Fn.toN k) (F Fn.slen t) = true) : EV F fns G W B Lp ⟨0, 0⟩ c8_6 { env := [(0, zs t), (5, SV.own 4 rows), (6, zi i), (7, zi k), (8, zb al), (16, zs t), (44, uu), (60, uu), (63, zi i), (79, zb false), (86, zb v), (160, uu), (161, zi k2)], fr := [(10, [])], hp := [], out := [] } = some (Ex.normal, { env := [(0, zs t), (5, SV.own 4 rows), (6, zi i), (7, zi k), (8, zb al), (9, SV.p (PV.str (F Fn.scut t (F Fn.toN i) (F Fn.toN k)))), (16, zs t), (44, uu), (60, uu), (63, zi i), (86, zb v), (160, uu), (161, zi k2)], fr := [(10, [])], hp := [], out := [] }) := by
  cbv
  rw [h0]
  cbv
  rw [h1]
  cbv
  rw [h2]
  cbv
  rw [h3]
  cbv
theorem w7DC_0 (F : Fns) (fns) (G : GT) (W : WT) (B : BT)  (Lp : LPT) (t w : List UInt8) (i k k2 : Int) (v al : Bool) (rows : List (List PV))   (h0 : F Fn.cmp BinOp.eql (Int.ofNat (F Fn.slen w)) 0 = true) : EV F fns G W B Lp ⟨0, 0⟩ c8_7 { env := [(0, zs t), (5, SV.own 4 rows), (6, zi i), (7, zi k), (8, zb al), (9, zs w), (16, zs t), (44, uu), (60, uu), (63, zi i), (86, uu), (160, uu), (161, zi k2)], fr := [(10, [])], hp := [], out := [] } = some (Ex.ret, { env := [(2, zn), (3, zi i), (4, zi 20), (5, SV.own 4 rows), (6, zi i), (7, zi k), (44, uu), (60, uu), (63, zi i), (123, zi i), (135, uu), (160, uu), (161, zi k2), (162, uu)], fr := [(10, [])], hp := [], out := [] }) := by
  cbv
  rw [h0]
  cbv
theorem w7tC_0 (F : Fns) (fns) (G : GT) (W : WT) (B : BT)  (Lp : LPT) (t w : List UInt8) (i k k2 : Int) (v al : Bool) (rows : List (List PV))   (h0 : F Fn.cmp BinOp.eql (Int.ofNat (F Fn.slen w)) 0 = false) (h1 : F Fn.cmp BinOp.gtr (Int.ofNat (F Fn.slen w)) 1 = false) : EV F fns G W B Lp ⟨0, 0⟩ c8_7 { env := [(0, zs t), (5, SV.own 4 rows), (6, zi i), (7, zi k), (8, zb true), (9, zs w), (16, zs t), (44, uu), (60, uu), (63, zi i), (86, zb v), (160, uu), (161, zi k2)], fr := [(10, [])], hp := [], out := [] } = some (Ex.normal, { env := [(0, zs t), (5, SV.own 4 rows), (6, zi i), (7, zi k), (8, zb true), (9, zs w), (16, zs t), (44, uu), (60, uu), (63, zi i), (86, zb v), (122, zb false), (160, uu), (161, zi k2)], fr := [(10, [])], hp := [], out := [] }) := by
  cbv
  rw [h0]
  cbv
  rw [h1]
  cbv
theorem w7tC_1 (F : Fns) (fns) (G : GT) (W : WT) (B : BT)  (Lp : LPT) (t w : List UInt8) (i k k2 : Int) (v al : Bool) (rows : List (List PV))   (h0 : F Fn.cmp BinOp.eql (Int.ofNat (F Fn.slen w)) 0 = false) (h1 : F Fn.cmp BinOp.gtr (Int.ofNat (F Fn.slen w)) 1 = true) (h2 : F Fn.cmp BinOp.lss (Int.ofNat (F Fn.slen w)) 7 = false) : EV F fns G W B Lp ⟨0, 0⟩ c8_7 { env := [(0, zs t), (5, SV.own 4 rows), (6, zi i), (7, zi k), (8, zb true), (9, zs w), (16, zs t), (44, uu), (60, uu), (63, zi i), (86, zb v), (160, uu), (161, zi k2)], fr := [(10, [])], hp := [], out := [] } = some (Ex.normal, { env := [(0, zs t), (5, SV.own 4 rows), (6, zi i), (7, zi k), (8, zb true), (9, zs w), (16, zs t), (44, uu), (60, uu), (63, zi i), (86, zb v), (122, zb false), (160, uu), (161, zi k2)], fr := [(10, [])], hp := [], out := [] }) := by
  cbv
  rw [h0]
  cbv
  rw [h1]
  cbv
  rw [h2]
  cbv
theorem w7tC_2 (F : Fns) (fns) (G : GT) (W : WT) (B : BT)  (Lp : LPT) (t w : List UInt8) (i k k2 : Int) (v al : Bool) (rows : List (List PV))  (x0 : UInt8) (h0 : F Fn.cmp BinOp.eql (Int.ofNat (F Fn.slen w)) 0 = false) (h1 : F Fn.cmp BinOp.gtr (Int.ofNat (F Fn.slen w)) 1 = true) (h2 : F Fn.cmp BinOp.lss (Int.ofNat (F Fn.slen w)) 7 = true) (h3 : F Fn.cmp BinOp.leq 0 0 = true) (h4 : F Fn.sget w (F Fn.toN 0) = some x0) (h5 : F Fn.cmp BinOp.eql (Int.ofNat x0.1.1.1) 48 = true) : EV F fns G W B Lp ⟨0, 0⟩ c8_7 { env := [(0, zs t), (5, SV.own 4 rows), (6, zi i), (7, zi k), (8, zb true), (9, zs w), (16, zs t), (44, uu), (60, uu), (63, zi i), (86, zb v), (160, uu), (161, zi k2)], fr := [(10, [])], hp := [], out := [] } = some (Ex.ret, { env := [(2, zn), (3, zi i), (4, zi 20), (5, SV.own 4 rows), (6, zi i), (7, zi k), (44, uu), (60, uu), (63, zi i), (123, zi i), (135, uu), (160, uu), (161, zi k2), (162, uu)], fr := [(10, [])], hp := [], out := [] }) := by
  cbv
  rw [h0]
  cbv
  rw [h1]
  cbv
  rw [h2]
  cbv
  rw [h3]
  cbv
  rw [h4]
  cbv
  rw [h5]
  cbv
theorem w7tC_3 (F : Fns) (fns) (G : GT) (W : WT) (B : BT)  (Lp : LPT) (t w : List UInt8) (i k k2 : Int) (v al : Bool) (rows : List (List PV))  (x0 : UInt8) (h0 : F Fn.cmp BinOp.eql (Int.ofNat (F Fn.slen w)) 0 = false) (h1 : F Fn.cmp BinOp.gtr (Int.ofNat (F Fn.slen w)) 1 = true) (h2 : F Fn.cmp BinOp.lss (Int.ofNat (F Fn.slen w)) 7 = true) (h3 : F Fn.cmp BinOp.leq 0 0 = true) (h4 : F Fn.sget w (F Fn.toN 0) = some x0) (h5 : F Fn.cmp BinOp.eql (Int.ofNat x0.1.1.1) 48 = false) : EV F fns G W B Lp ⟨0, 0⟩ c8_7 { env := [(0, zs t), (5, SV.own 4 rows), (6, zi i), (7, zi k), (8, zb true), (9, zs w), (16, zs t), (44, uu), (60, uu), (63, zi i), (86, zb v), (160, uu), (161, zi k2)], fr := [(10, [])], hp := [], out := [] } = some (Ex.normal, { env := [(0, zs t), (5, SV.own 4 rows), (6, zi i), (7, zi k), (8, zb true), (9, zs w), (16, zs t), (44, uu), (60, uu), (63, zi i), (86, zb v), (122, zb false), (160, uu), (161, zi k2)], fr := [(10, [])], hp := [], out := [] }) := by
  cbv
  rw [h0]
  cbv
  rw [h1]
  cbv
  rw [h2]
  cbv
  rw [h3]
  cbv
  rw [h4]
  cbv
  rw [h5]
  cbv
theorem w8tC_0 (F : Fns) (fns) (G : GT) (W : WT) (B : BT)  (Lp : LPT) (t w : List UInt8) (i k k2 : Int) (v al : Bool) (rows : List (List PV))   (h0 : F Fn.cmp BinOp.gtr (Int.ofNat (F Fn.slen w)) 6 = true) : EV F fns G W B Lp ⟨0, 0⟩ c8_8 { env := [(0, zs t), (5, SV.own 4 rows), (6, zi i), (7, zi k), (8, zb true), (9, zs w), (16, zs t), (44, uu), (60, uu), (63, zi i), (86, zb v), (122, zb false), (160, uu), (161, zi k2)], fr := [(10, [])], hp := [], out := [] } = some (Ex.ret, { env := [(2, zn), (3, zi i), (4, zi 6), (5, SV.own 4 rows), (6, zi i), (7, zi k), (44, uu), (60, uu), (63, zi i), (123, uu), (135, zi i), (160, uu), (161, zi k2), (162, uu)], fr := [(10, [])], hp := [], out := [] }) := by
  cbv
  rw [h0]
  cbv
theorem w8tC_1 (F : Fns) (fns) (G : GT) (W : WT) (B : BT)  (Lp : LPT) (t w : List UInt8) (i k k2 : Int) (v al : Bool) (rows : List (List PV))   (h0 : F Fn.cmp BinOp.gtr (Int.ofNat (F Fn.slen w)) 6 = false) (h1 : F Fn.cmp BinOp.gtr (Int.ofNat (F Fn.slen w)) 16 = true) : EV F fns G W B Lp ⟨0, 0⟩ c8_8 { env := [(0, zs t), (5, SV.own 4 rows), (6, zi i), (7, zi k), (8, zb true), (9, zs w), (16, zs t), (44, uu), (60, uu), (63, zi i), (86, zb v), (122, zb false), (160, uu), (161, zi k2)], fr := [(10, [])], hp := [], out := [] } = some (Ex.ret, { env := [(2, zn), (3, zi i), (4, zi 6), (5, SV.own 4 rows), (6, zi i), (7, zi k), (44, uu), (60, uu), (63, zi i), (123, uu), (135, zi i), (160, uu), (161, zi k2), (162, uu)], fr := [(10, [])], hp := [], out := [] }) := by
  cbv
  rw [h0]
  cbv
  rw [h1]
  cbv
theorem w8tC_2 (F : Fns) (fns) (G : GT) (W : WT) (B : BT)  (Lp : LPT) (t w : List UInt8) (i k k2 : Int) (v al : Bool) (rows : List (List PV))   (h0 : F Fn.cmp BinOp.gtr (Int.ofNat (F Fn.slen w)) 6 = false) (h1 : F Fn.cmp BinOp.gtr (Int.ofNat (F Fn.slen w)) 16 = false) : EV F fns G W B Lp ⟨0, 0⟩ c8_8 { env := [(0, zs t), (5, SV.own 4 rows), (6, zi i), (7, zi k), (8, zb true), (9, zs w), (16, zs t), (44, uu), (60, uu), (63, zi i), (86, zb v), (122, zb false), (160, uu), (161, zi k2)], fr := [(10, [])], hp := [], out := [] } = some (Ex.normal, { env := [(0, zs t), (5, SV.own 4 rows), (6, zi i), (7, zi k), (8, zb true), (9, zs w), (16, zs t), (44, uu), (60, uu), (63, zi i), (86, zb v), (134, zb false), (160, uu), (161, zi k2)], fr := [(10, [])], hp := [], out := [] }) := by
  cbv
  rw [h0]
  cbv
  rw [h1]
  cbv
theorem w9tC_0 (F : Fns) (fns) (G : GT) (W : WT) (B : BT)  (Lp : LPT) (t w : List UInt8) (i k k2 : Int) (v al : Bool) (rows : List (List PV))    : EV F fns G W B Lp ⟨0, 0⟩ c8_9 { env := [(0, zs t), (5, SV.own 4 rows), (6, zi i), (7, zi k), (8, zb true), (9, zs w), (16, zs t), (44, uu), (60, uu), (63, zi i), (86, zb v), (134, zb false), (160, uu), (161, zi k2)], fr := [(10, [])], hp := [], out := [] } = some (Ex.normal, { env := [(0, zs t), (5, SV.own 4 rows), (6, zi i), (7, zi k), (8, zb true), (9, zs w), (10, SV.ptr { root := Root.st 0 10, off := 0, row := none }), (16, zs t), (44, uu), (60, uu), (63, zi i), (86, zb v), (160, uu), (161, zi k2)], fr := [(10, [zi 1, zs w, zi 0, zi i])], hp := [], out := [] }) := by
  cbv
theorem w10tC_0 (F : Fns) (fns) (G : GT) (W : WT) (B : BT)  (Lp : LPT) (t w : List UInt8) (i k k2 : Int) (v al : Bool) (rows : List (List PV)) (n j : Int)   (h0 : Lp b8j { env := [(0, zs t), (5, SV.own 4 rows), (6, zi i), (7, zi k), (9, zs w), (10, SV.ptr { root := Root.st 0 10, off := 0, row := none }), (11, zi 0), (16, zs t), (44, uu), (60, uu), (63, zi i), (160, uu), (161, zi k2)], fr := [(10, [zi 2, zs w, zi 0, zi i])], hp := [], out := [] } = some (Ex.exit 4, { env := [(0, zs t), (5, SV.own 4 rows), (6, zi i), (7, zi k), (9, zs w), (10, SV.ptr { root := Root.st 0 10, off := 0, row := none }), (11, zi j), (16, zs t), (44, uu), (60, uu), (63, zi i), (144, zb false), (160, uu), (161, zi k2)], fr := [(10, [zi 2, zs w, zi n, zi i])], hp := [], out := [] })) : EV F fns G W B Lp ⟨0, 0⟩ c8_10 { env := [(0, zs t), (5, SV.own 4 rows), (6, zi i), (7, zi k), (8, zb true), (9, zs w), (10, SV.ptr { root := Root.st 0 10, off := 0, row := none }), (16, zs t), (44, uu), (60, uu), (63, zi i), (86, zb v), (160, uu), (161, zi k2)], fr := [(10, [zi 1, zs w, zi 0, zi i])], hp := [], out := [] } = some (Ex.normal, { env := [(0, zs t), (5, SV.own 4 rows), (6, zi i), (7, zi k), (9, zs w), (10, SV.ptr { root := Root.st 0 10, off := 0, row := none }), (11, zi j), (16, zs t), (44, uu), (60, uu), (63, zi i), (144, zb false), (160, uu), (161, zi k2)], fr := [(10, [zi 2, zs w, zi n, zi i])], hp := [], out := [] }) := by
  cbv
  rw [h0]
  cbv
theorem w7fC_0 (F : Fns) (fns) (G : GT) (W : WT) (B : BT)  (Lp : LPT) (t w : List UInt8) (i k k2 : Int) (v al : Bool) (rows : List (List PV))  (x0 : UInt8) (h0 : F Fn.cmp BinOp.eql (Int.ofNat (F Fn.slen w)) 0 = false) (h1 : F Fn.cmp BinOp.leq 0 0 = true) (h2 : F Fn.sget w (F Fn.toN 0) = some x0) (h3 : G DG = true) (h4 : W (Int.ofNat ↑x0.toBitVec.toFin) DG = true) : EV F fns G W B Lp ⟨0, 0⟩ c8_7 { env := [(0, zs t), (5, SV.own 4 rows), (6, zi i), (7, zi k), (8, zb false), (9, zs w), (16, zs t), (44, uu), (60, uu), (63, zi i), (86, zb v), (160, uu), (161, zi k2)], fr := [(10, [])], hp := [], out := [] } = some (Ex.ret, { env := [(2, zn), (3, zi i), (4, zi 20), (5, SV.own 4 rows), (6, zi i), (7, zi k), (44, uu), (60, uu), (63, zi i), (123, zi i), (135, uu), (160, uu), (161, zi k2), (162, uu)], fr := [(10, [])], hp := [], out := [] }) := by
  cbv
  rw [h0]
  cbv
  rw [h1]
  cbv
  rw [h2]
  cbv
  rw [h3]
  cbv
  rw [h4]
  cbv
theorem w7fC_1 (F : Fns) (fns) (G : GT) (W : WT) (B : BT)  (Lp : LPT) (t w : List UInt8) (i k k2 : Int) (v al : Bool) (rows : List (List PV))  (x0 : UInt8) (h0 : F Fn.cmp BinOp.eql (Int.ofNat (F Fn.slen w)) 0 = false) (h1 : F Fn.cmp BinOp.leq 0 0 = true) (h2 : F Fn.sget w (F Fn.toN 0) = some x0) (h3 : G DG = true) (h4 : W (Int.ofNat ↑x0.toBitVec.toFin) DG = false) : EV F fns G W B Lp ⟨0, 0⟩ c8_7 { env := [(0, zs t), (5, SV.own 4 rows), (6, zi i), (7, zi k), (8, zb false), (9, zs w), (16, zs t), (44, uu), (60, uu), (63, zi i), (86, zb v), (160, uu), (161, zi k2)], fr := [(10, [])], hp := [], out := [] } = some (Ex.normal, { env := [(0, zs t), (5, SV.own 4 rows), (6, zi i), (7, zi k), (8, zb false), (9, zs w), (16, zs t), (44, uu), (60, uu), (63, zi i), (86, zb v), (122, zb false), (160, uu), (161, zi k2)], fr := [(10, [])], hp := [], out := [] }) := by
  cbv
  rw [h0]
  cbv
  rw [h1]
  cbv
  rw [h2]
  cbv
  rw [h3]
  cbv
  rw [h4]
  cbv
theorem w8fC_0 (F : Fns) (fns) (G : GT) (W : WT) (B : BT)  (Lp : LPT) (t w : List UInt8) (i k k2 : Int) (v al : Bool) (rows : List (List PV))   (h0 : F Fn.cmp BinOp.gtr (Int.ofNat (F Fn.slen w)) 16 = true) : EV F fns G W B Lp ⟨0, 0⟩ c8_8 { env := [(0, zs t), (5, SV.own 4 rows), (6, zi i), (7, zi k), (8, zb false), (9, zs w), (16, zs t), (44, uu), (60, uu), (63, zi i), (86, zb v), (122, zb false), (160, uu), (161, zi k2)], fr := [(10, [])], hp := [], out := [] } = some (Ex.ret, { env := [(2, zn), (3, zi i), (4, zi 6), (5, SV.own 4 rows), (6, zi i), (7, zi k), (44, uu), (60, uu), (63, zi i), (123, uu), (135, zi i), (160, uu), (161, zi k2), (162, uu)], fr := [(10, [])], hp := [], out := [] }) := by
  cbv
  rw [h0]
  cbv
theorem w8fC_1 (F : Fns) (fns) (G : GT) (W : WT) (B : BT)  (Lp : LPT) (t w : List UInt8) (i k k2 : Int) (v al : Bool) (rows : List (List PV))   (h0 : F Fn.cmp BinOp.gtr (Int.ofNat (F Fn.slen w)) 16 = false) : EV F fns G W B Lp ⟨0, 0⟩ c8_8 { env := [(0, zs t), (5, SV.own 4 rows), (6, zi i), (7, zi k), (8, zb false), (9, zs w), (16, zs t), (44, uu), (60, uu), (63, zi i), (86, zb v), (122, zb false), (160, uu), (161, zi k2)], fr := [(10, [])], hp := [], out := [] } = some (Ex.normal, { env := [(0, zs t), (5, SV.own 4 rows), (6, zi i), (7, zi k), (8, zb false), (9, zs w), (16, zs t), (44, uu), (60, uu), (63, zi i), (86, zb v), (134, zb false), (160, uu), (161, zi k2)], fr := [(10, [])], hp := [], out := [] }) := by
  cbv
  rw [h0]
  cbv
theorem w9fC_0 (F : Fns) (fns) (G : GT) (W : WT) (B : BT)  (Lp : LPT) (t w : List UInt8) (i k k2 : Int) (v al : Bool) (rows : List (List PV))    : EV F fns G W B Lp ⟨0, 0⟩ c8_9 { env := [(0, zs t), (5, SV.own 4 rows), (6, zi i), (7, zi k), (8, zb false), (9, zs w), (16, zs t), (44, uu), (60, uu), (63, zi i), (86, zb v), (134, zb false), (160, uu), (161, zi k2)], fr := [(10, [])], hp := [], out := [] } = some (Ex.normal, { env := [(0, zs t), (5, SV.own 4 rows), (6, zi i), (7, zi k), (8, zb false), (9, zs w), (10, SV.ptr { root := Root.st 0 10, off := 0, row := none }), (16, zs t), (44, uu), (60, uu), (63, zi i), (86, zb v), (160, uu), (161, zi k2)], fr := [(10, [zi 1, zs w, zi 0, zi i])], hp := [], out := [] }) := by
  cbv
theorem w10fC_0 (F : Fns) (fns) (G : GT) (W : WT) (B : BT)  (Lp : LPT) (t w : List UInt8) (i k k2 : Int) (v al : Bool) (rows : List (List PV)) (n j : Int)    : EV F fns G W B Lp ⟨0, 0⟩ c8_10 { env := [(0, zs t), (5, SV.own 4 rows), (6, zi i), (7, zi k), (8, zb false), (9, zs w), (10, SV.ptr { root := Root.st 0 10, off := 0, row := none }), (16, zs t), (44, uu), (60, uu), (63, zi i), (86, zb v), (160, uu), (161, zi k2)], fr := [(10, [zi 1, zs w, zi 0, zi i])], hp := [], out := [] } = some (Ex.normal, { env := [(0, zs t), (5, SV.own 4 rows), (6, zi i), (7, zi k), (8, zb false), (9, zs w), (10, SV.ptr { root := Root.st 0 10, off := 0, row := none }), (16, zs t), (44, uu), (60, uu), (63, zi i), (86, zb v), (139, zb false), (160, uu), (161, zi k2)], fr := [(10, [zi 1, zs w, zi 0, zi i])], hp := [], out := [] }) := by
  cbv
theorem it8jC_0 (F : Fns) (fns) (G : GT) (W : WT) (B : BT) (t w : List UInt8) (i k k2 : Int) (v al : Bool) (rows : List (List PV)) (n j : Int)   (h0 : F Fn.cmp BinOp.lss j (Int.ofNat (F Fn.slen w)) = false) : EV F fns G W B n2 ⟨0, 0⟩ b8j { env := [(0, zs t), (5, SV.own 4 rows), (6, zi i), (7, zi k), (9, zs w), (10, SV.ptr { root := Root.st 0 10, off := 0, row := none }), (11, zi j), (16, zs t), (44, uu), (60, uu), (63, zi i), (160, uu), (161, zi k2)], fr := [(10, [zi 2, zs w, zi n, zi i])], hp := [], out := [] } = some (Ex.exit 4, { env := [(0, zs t), (5, SV.own 4 rows), (6, zi i), (7, zi k), (9, zs w), (10, SV.ptr { root := Root.st 0 10, off := 0, row := none }), (11, zi j), (16, zs t), (44, uu), (60, uu), (63, zi i), (144, zb false), (160, uu), (161, zi k2)], fr := [(10, [zi 2, zs w, zi n, zi i])], hp := [], out := [] }) := by
  cbv
  rw [h0]
  cbv
theorem it8jC_1 (F : Fns) (fns) (G : GT) (W : WT) (B : BT) (t w : List UInt8) (i k k2 : Int) (v al : Bool) (rows : List (List PV)) (n j : Int)  (x0 : UInt8) (h0 : F Fn.cmp BinOp.lss j (Int.ofNat (F Fn.slen w)) = true) (h1 : F Fn.cmp BinOp.leq 0 j = true) (h2 : F Fn.sget w (F Fn.toN j) = some x0) : EV F fns G W B n2 ⟨0, 0⟩ b8j { env := [(0, zs t), (5, SV.own 4 rows), (6, zi i), (7, zi k), (9, zs w), (10, SV.ptr { root := Root.st 0 10, off := 0, row := none }), (11, zi j), (16, zs t), (44, uu), (60, uu), (63, zi i), (160, uu), (161, zi k2)], fr := [(10, [zi 2, zs w, zi n, zi i])], hp := [], out := [] } = some (Ex.normal, { env := [(0, zs t), (5, SV.own 4 rows), (6, zi i), (7, zi k), (9, zs w), (10, SV.ptr { root := Root.st 0 10, off := 0, row := none }), (11, SV.p (PV.int IntKind.i64 (F Fn.ar BinOp.add IntKind.i64 j 1))), (16, zs t), (44, uu), (60, uu), (63, zi i), (160, uu), (161, zi k2)], fr := [(10, [zi 2, zs w, SV.p (PV.int IntKind.i64 (F Fn.ar BinOp.sub IntKind.i64 (F Fn.ar BinOp.add IntKind.i64 (F Fn.ar BinOp.mul IntKind.i64 n 10) (F Fn.wrap IntKind.i64 (Int.ofNat x0.1.1.1))) 48)), zi i])], hp := [], out := [] }) := by
  cbv
  rw [h0]
  cbv
  rw [h1]
  cbv
  rw [h2]
  cbv
theorem w11tC_0 (F : Fns) (fns) (G : GT) (W : WT) (B : BT)  (Lp : LPT) (t w : List UInt8) (i k k2 : Int) (v al : Bool) (rows : List (List PV)) (n j : Int)   (h0 : F Fn.le (F Fn.add 0 (F Fn.rlen [[PV.int IntKind.i64 2, PV.str w, PV.int IntKind.i64 n, PV.int IntKind.i64 i]])) (F Fn.rlen [[PV.int IntKind.i64 2, PV.str w, PV.int IntKind.i64 n, PV.int IntKind.i64 i]]) = true) (h1 : F Fn.lens 4 (F Fn.rpart [[PV.int IntKind.i64 2, PV.str w, PV.int IntKind.i64 n, PV.int IntKind.i64 i]] 0 (F Fn.rlen [[PV.int IntKind.i64 2, PV.str w, PV.int IntKind.i64 n, PV.int IntKind.i64 i]])) = true) (h2 : F Fn.le (F Fn.add 0 (F Fn.rlen rows)) (F Fn.rlen rows) = true) (h3 : F Fn.afit (F Fn.rlen rows) (F Fn.rpart [[PV.int IntKind.i64 2, PV.str w, PV.int IntKind.i64 n, PV.int IntKind.i64 i]] 0 (F Fn.rlen [[PV.int IntKind.i64 2, PV.str w, PV.int IntKind.i64 n, PV.int IntKind.i64 i]])) 40 = true) : EV F fns G W B Lp ⟨0, 0⟩ c8_11 { env := [(0, zs t), (5, SV.own 4 rows), (6, zi i), (7, zi k), (9, zs w), (10, SV.ptr { root := Root.st 0 10, off := 0, row := none }), (11, zi j), (16, zs t), (44, uu), (60, uu), (63, zi i), (144, zb false), (160, uu), (161, zi k2)], fr := [(10, [zi 2, zs w, zi n, zi i])], hp := [], out := [] } = some (Ex.normal, { env := [(0, zs t), (5, SV.own 4 (F Fn.rcat (F Fn.rpart rows 0 (F Fn.rlen rows)) (F Fn.rpart [[PV.int IntKind.i64 2, PV.str w, PV.int IntKind.i64 n, PV.int IntKind.i64 i]] 0 (F Fn.rlen [[PV.int IntKind.i64 2, PV.str w, PV.int IntKind.i64 n, PV.int IntKind.i64 i]])))), (6, zi i), (7, zi k), (16, zs t), (44, uu), (60, uu), (63, zi i), (160, uu), (161, zi k2)], fr := [(10, [])], hp := [], out := [] }) := by
  cbv
  rw [h0]
  cbv
  rw [h1]
  cbv
  rw [h2]
  cbv
  rw [h3]
  cbv
theorem w11fC_0 (F : Fns) (fns) (G : GT) (W : WT) (B : BT)  (Lp : LPT) (t w : List UInt8) (i k k2 : Int) (v al : Bool) (rows : List (List PV)) (n j : Int)   (h0 : F Fn.le (F Fn.add 0 (F Fn.rlen [[PV.int IntKind.i64 1, PV.str w, PV.int IntKind.i64 0, PV.int IntKind.i64 i]])) (F Fn.rlen [[PV.int IntKind.i64 1, PV.str w, PV.int IntKind.i64 0, PV.int IntKind.i64 i]]) = true) (h1 : F Fn.lens 4 (F Fn.rpart [[PV.int IntKind.i64 1, PV.str w, PV.int IntKind.i64 0, PV.int IntKind.i64 i]] 0 (F Fn.rlen [[PV.int IntKind.i64 1, PV.str w, PV.int IntKind.i64 0, PV.int IntKind.i64 i]])) = true) (h2 : F Fn.le (F Fn.add 0 (F Fn.rlen rows)) (F Fn.rlen rows) = true) (h3 : F Fn.afit (F Fn.rlen rows) (F Fn.rpart [[PV.int IntKind.i64 1, PV.str w, PV.int IntKind.i64 0, PV.int IntKind.i64 i]] 0 (F Fn.rlen [[PV.int IntKind.i64 1, PV.str w, PV.int IntKind.i64 0, PV.int IntKind.i64 i]])) 40 = true) : EV F fns G W B Lp ⟨0, 0⟩ c8_11 { env := [(0, zs t), (5, SV.own 4 rows), (6, zi i), (7, zi k), (8, zb false), (9, zs w), (10, SV.ptr { root := Root.st 0 10, off := 0, row := none }), (16, zs t), (44, uu), (60, uu), (63, zi i), (86, zb v), (139, zb false), (160, uu), (161, zi k2)], fr := [(10, [zi 1, zs w, zi 0, zi i])], hp := [], out := [] } = some (Ex.normal, { env := [(0, zs t), (5, SV.own 4 (F Fn.rcat (F Fn.rpart rows 0 (F Fn.rlen rows)) (F Fn.rpart [[PV.int IntKind.i64 1, PV.str w, PV.int IntKind.i64 0, PV.int IntKind.i64 i]] 0 (F Fn.rlen [[PV.int IntKind.i64 1, PV.str w, PV.int IntKind.i64 0, PV.int IntKind.i64 i]])))), (6, zi i), (7, zi k), (16, zs t), (44, uu), (60, uu), (63, zi i), (160, uu), (161, zi k2)], fr := [(10, [])], hp := [], out := [] }) := by
  cbv
  rw [h0]
  cbv
  rw [h1]
  cbv
  rw [h2]
  cbv
  rw [h3]
  cbv
theorem w12C_0 (F : Fns) (fns) (G : GT) (W : WT) (B : BT)  (Lp : LPT) (t w : List UInt8) (i k k2 : Int) (v al : Bool) (rows : List (List PV))    : EV F fns G W B Lp ⟨0, 0⟩ c8_12 { env := [(0, zs t), (5, SV.own 4 rows), (6, zi i), (7, zi k), (16, zs t), (44, uu), (60, uu), (63, zi i), (160, uu), (161, zi k2)], fr := [(10, [])], hp := [], out := [] } = some (Ex.normal, { env := [(0, zs t), (5, SV.own 4 rows), (6, zi k), (7, zi k), (16, zs t), (44, uu), (60, uu), (63, zi i), (160, uu), (161, zi k)], fr := [(10, [])], hp := [], out := [] }) := by
  cbv
theorem sem8xC_0 (F : Fns) (fns) (G : GT) (W : WT) (B : BT) (Lp : LPT) (s t : List UInt8) (i k k0 k1 k2 : Int) (rows : List (List PV))  (h0 : F Fn.cmp BinOp.gtr (Int.ofNat (F Fn.slen s)) 4096 = true) : @S.fnS (symA F) (T' fns (look (ps8 G W B))) n5 Lp ⟨0, 0⟩ vf8 [.p (.str s)] [] [] = some ((SV.tup [zn, zi 0, zi 6], [], []), []) := by
  cbv
  rw [h0]
  cbv
theorem sem8xC_1 (F : Fns) (fns) (G : GT) (W : WT) (B : BT) (Lp : LPT) (s t : List UInt8) (i k k0 k1 k2 : Int) (rows : List (List PV))  (h0 : F Fn.cmp BinOp.gtr (Int.ofNat (F Fn.slen s)) 4096 = false) (h1 : G s = true) (h2 : Lp b8 { env := [(0, SV.p (PV.str (B s))), (5, zn), (6, zi 0), (7, uu), (16, SV.p (PV.str (B s))), (44, uu), (60, uu), (63, uu), (160, uu), (161, uu)], fr := [(10, [])], hp := [], out := [] } = some (Ex.exit 0, { env := [(0, zs t), (5, SV.own 4 rows), (6, zi i), (7, zi k0), (16, zs t), (20, zb false), (44, uu), (60, uu), (63, zi k1), (160, uu), (161, zi k2)], fr := [(10, [])], hp := [], out := [] })) (h3 : F Fn.eqn (F Fn.rlen rows) (F Fn.rlen rows) = true) : @S.fnS (symA F) (T' fns (look (ps8 G W B))) n5 Lp ⟨0, 0⟩ vf8 [.p (.str s)] [] [] = some ((SV.tup [SV.own 4 rows, zi 0, zi 0], [], []), []) := by
  cbv
  rw [h0]
  cbv
  rw [h1]
  cbv
  rw [h2]
  cbv
  rw [if_pos (show (F Fn.eqn (F Fn.rlen rows) (F Fn.rlen rows) = true) from h3)]
  cbv
theorem sem8yC_0 (F : Fns) (fns) (G : GT) (W : WT) (B : BT) (Lp : LPT) (s t : List UInt8) (i k k0 k1 k2 : Int) (rows : List (List PV))  (h0 : F Fn.cmp BinOp.gtr (Int.ofNat (F Fn.slen s)) 4096 = true) : @S.fnS (symA F) (T' fns (look (ps8 G W B))) n5 Lp ⟨0, 0⟩ vf8 [.p (.str s)] [] [] = some ((SV.tup [zn, zi 0, zi 6], [], []), []) := by
  cbv
  rw [h0]
  cbv
theorem sem8yC_1 (F : Fns) (fns) (G : GT) (W : WT) (B : BT) (Lp : LPT) (s t : List UInt8) (i k k0 k1 k2 : Int) (rows : List (List PV))  (h0 : F Fn.cmp BinOp.gtr (Int.ofNat (F Fn.slen s)) 4096 = false) (h1 : G s = true) (h2 : Lp b8 { env := [(0, SV.p (PV.str (B s))), (5, zn), (6, zi 0), (7, uu), (16, SV.p (PV.str (B s))), (44, uu), (60, uu), (63, uu), (160, uu), (161, uu)], fr := [(10, [])], hp := [], out := [] } = some (Ex.ret, { env := [(2, zn), (3, zi i), (4, zi 20), (5, SV.own 4 rows), (6, zi i), (7, zi k), (44, uu), (60, uu), (63, zi i), (123, zi i), (135, uu), (160, uu), (161, zi k2), (162, uu)], fr := [(10, [])], hp := [], out := [] })) : @S.fnS (symA F) (T' fns (look (ps8 G W B))) n5 Lp ⟨0, 0⟩ vf8 [.p (.str s)] [] [] = some ((SV.tup [zn, zi i, zi 20], [], []), []) := by
  cbv
  rw [h0]
  cbv
  rw [h1]
  cbv
  rw [h2]
  cbv
theorem sem8zC_0 (F : Fns) (fns) (G : GT) (W : WT) (B : BT) (Lp : LPT) (s t : List UInt8) (i k k0 k1 k2 : Int) (rows : List (List PV))  (h0 : F Fn.cmp BinOp.gtr (Int.ofNat (F Fn.slen s)) 4096 = true) : @S.fnS (symA F) (T' fns (look (ps8 G W B))) n5 Lp ⟨0, 0⟩ vf8 [.p (.str s)] [] [] = some ((SV.tup [zn, zi 0, zi 6], [], []), []) := by
  cbv
  rw [h0]
  cbv
theorem sem8zC_1 (F : Fns) (fns) (G : GT) (W : WT) (B : BT) (Lp : LPT) (s t : List UInt8) (i k k0 k1 k2 : Int) (rows : List (List PV))  (h0 : F Fn.cmp BinOp.gtr (Int.ofNat (F Fn.slen s)) 4096 = false) (h1 : G s = true) (h2 : Lp b8 { env := [(0, SV.p (PV.str (B s))), (5, zn), (6, zi 0), (7, uu), (16, SV.p (PV.str (B s))), (44, uu), (60, uu), (63, uu), (160, uu), (161, uu)], fr := [(10, [])], hp := [], out := [] } = some (Ex.ret, { env := [(2, zn), (3, zi i), (4, zi 6), (5, SV.own 4 rows), (6, zi i), (7, zi k), (44, uu), (60, uu), (63, zi i), (123, uu), (135, zi i), (160, uu), (161, zi k2), (162, uu)], fr := [(10, [])], hp := [], out := [] })) : @S.fnS (symA F) (T' fns (look (ps8 G W B))) n5 Lp ⟨0, 0⟩ vf8 [.p (.str s)] [] [] = some ((SV.tup [zn, zi i, zi 6], [], []), []) := by
  cbv
  rw [h0]
  cbv
  rw [h1]
  cbv
  rw [h2]
  cbv
theorem it9_0 (F : Fns) (fns) (xs : List (List PV)) (i n : Int)   (h0 : F Fn.cmp BinOp.lss i n = false) : @S.evS (symA F) (T' fns (look m0)) n5 n2 ⟨0, 0⟩ b9 { env := [(0, SV.lent 4 xs), (1, SV.lent 4 xs), (2, zi 0), (14, SV.lent 4 xs), (15, zi n), (16, zi i)], fr := [(8, [])], hp := [], out := [] } = some (Ex.exit 0, { env := [(0, SV.lent 4 xs), (1, SV.lent 4 xs), (2, zi 0), (14, SV.lent 4 xs), (15, zi n), (16, zi i), (17, zb false)], fr := [(8, [])], hp := [], out := [] }) := by
  cbv
  rw [h0]
  cbv
theorem it9_1 (F : Fns) (fns) (xs : List (List PV)) (i n : Int)  (y0_0 : Int) (y0_1 : List UInt8) (y0_2 : Int) (y0_3 : Int) (h0 : F Fn.cmp BinOp.lss i n = true) (h1 : F Fn.cmp BinOp.leq 0 i = true) (h2 : F Fn.rget xs (F Fn.toN i) = some [PV.int IntKind.i64 y0_0, PV.str y0_1, PV.int IntKind.i64 y0_2, PV.int IntKind.i64 y0_3]) (h3 : F Fn.cmp BinOp.leq 0 i = true) (h4 : F Fn.rget xs (F Fn.toN i) = some [PV.int IntKind.i64 y0_0, PV.str y0_1, PV.int IntKind.i64 y0_2, PV.int IntKind.i64 y0_3]) (h5 : F Fn.cmp BinOp.neq y0_0 y0_0 = false) (h6 : F Fn.cmp BinOp.leq 0 i = true) (h7 : F Fn.rget xs (F Fn.toN i) = some [PV.int IntKind.i64 y0_0, PV.str y0_1, PV.int IntKind.i64 y0_2, PV.int IntKind.i64 y0_3]) (h8 : F Fn.scmp BinOp.neq y0_1 y0_1 = false) (h9 : F Fn.cmp BinOp.leq 0 i = true) (h10 : F Fn.rget xs (F Fn.toN i) = some [PV.int IntKind.i64 y0_0, PV.str y0_1, PV.int IntKind.i64 y0_2, PV.int IntKind.i64 y0_3]) (h11 : F Fn.cmp BinOp.neq y0_2 y0_2 = false) (h12 : F Fn.cmp BinOp.leq 0 i = true) (h13 : F Fn.rget xs (F Fn.toN i) = some [PV.int IntKind.i64 y0_0, PV.str y0_1, PV.int IntKind.i64 y0_2, PV.int IntKind.i64 y0_3]) (h14 : F Fn.cmp BinOp.neq y0_3 (F Fn.ar BinOp.add IntKind.i64 y0_3 0) = false) : @S.evS (symA F) (T' fns (look m0)) n5 n2 ⟨0, 0⟩ b9 { env := [(0, SV.lent 4 xs), (1, SV.lent 4 xs), (2, zi 0), (14, SV.lent 4 xs), (15, zi n), (16, zi i)], fr := [(8, [])], hp := [], out := [] } = some (Ex.normal, { env := [(0, SV.lent 4 xs), (1, SV.lent 4 xs), (2, zi 0), (14, SV.lent 4 xs), (15, zi n), (16, SV.p (PV.int IntKind.i64 (F Fn.ar BinOp.add IntKind.i64 i 1)))], fr := [(8, [])], hp := [], out := [] }) := by
  cbv
  rw [h0]
  cbv
  rw [h1]
  cbv
  rw [h2]
  cbv
  rw [h3]
  cbv
  rw [h4]
  cbv
  rw [h5]
  cbv
  rw [h6]
  cbv
  rw [h7]
  cbv
  rw [h8]
  cbv
  rw [h9]
  cbv
  rw [h10]
  cbv
  rw [h11]
  cbv
  rw [h12]
  cbv
  rw [h13]
  cbv
  rw [h14]
  cbv
theorem it9N_0 (F : Fns) (fns) (xs : List (List PV)) (i n : Int)   (h0 : F Fn.cmp BinOp.lss i n = false) : @S.evS (symA F) (T' fns (look m0)) n5 n2 ⟨0, 0⟩ b9 { env := [(0, zn), (1, zn), (2, zi 0), (14, zn), (15, zi n), (16, zi i)], fr := [(8, [])], hp := [], out := [] } = some (Ex.exit 0, { env := [(0, zn), (1, zn), (2, zi 0), (14, zn), (15, zi n), (16, zi i), (17, zb false)], fr := [(8, [])], hp := [], out := [] }) := by
  cbv
  rw [h0]
  cbv
theorem sem9X_0 (F : Fns) (fns) (Lp : LPT) (xs : List (List PV)) (i n : Int)  (h0 : F Fn.cmp BinOp.neq (Int.ofNat (F Fn.rlen xs)) (Int.ofNat (F Fn.rlen xs)) = false) (h1 : Lp b9 { env := [(0, SV.lent 4 xs), (1, SV.lent 4 xs), (2, zi 0), (14, SV.lent 4 xs), (15, SV.p (PV.int IntKind.i64 (Int.ofNat (F Fn.rlen xs)))), (16, zi 0)], fr := [(8, [])], hp := [], out := [] } = some (Ex.exit 0, { env := [(0, SV.lent 4 xs), (1, SV.lent 4 xs), (2, zi 0), (14, SV.lent 4 xs), (15, zi n), (16, zi i), (17, zb false)], fr := [(8, [])], hp := [], out := [] })) : @S.fnS (symA F) (T' fns (look m0)) n5 Lp ⟨0, 0⟩ vf9 [.lent 4 xs, .lent 4 xs, .p (.int .i64 0)] [] [] = some ((zb true, [], []), []) := by
  cbv
  rw [h0]
  cbv
  rw [h1]
  cbv
theorem sem9N_0 (F : Fns) (fns) (Lp : LPT) (xs : List (List PV)) (i n : Int)  (h0 : F Fn.cmp BinOp.neq (Int.ofNat 0) (Int.ofNat 0) = false) (h1 : Lp b9 { env := [(0, zn), (1, zn), (2, zi 0), (14, zn), (15, SV.p (PV.int IntKind.i64 (Int.ofNat 0))), (16, zi 0)], fr := [(8, [])], hp := [], out := [] } = some (Ex.exit 0, { env := [(0, zn), (1, zn), (2, zi 0), (14, zn), (15, zi n), (16, zi i), (17, zb false)], fr := [(8, [])], hp := [], out := [] })) : @S.fnS (symA F) (T' fns (look m0)) n5 Lp ⟨0, 0⟩ vf9 [.p .nils, .p .nils, .p (.int .i64 0)] [] [] = some ((zb true, [], []), []) := by
  cbv
  rw [h0]
  cbv
  rw [h1]
  cbv
theorem sem3t_0 (F : Fns) (fns) (Z : List UInt8 → Bool) (P : List UInt8 → List (List PV)) (At E : List UInt8 → Int) (Q : List (List PV) → List (List PV) → Bool) (s : List UInt8)  (h0 : F Fn.cmp BinOp.gtr (Int.ofNat (F Fn.slen s)) 4200 = false) (h1 : Z s = true) (h2 : Z s = true) (h3 : F Fn.cmp BinOp.eql (E s) (E s) = true) (h4 : F Fn.cmp BinOp.eql (At s) (At s) = true) : @S.fnS (symA F) (T' fns (look (ps3s Z P At E Q))) n5 n2 ⟨0, 0⟩ vf3 [.p (.str s)] [] [] = some ((zb true, [], []), []) := by
  cbv
  rw [h0]
  cbv
  rw [h1]
  cbv
  rw [h2]
  cbv
  rw [h3]
  cbv
  rw [h4]
  cbv
theorem sem3t_1 (F : Fns) (fns) (Z : List UInt8 → Bool) (P : List UInt8 → List (List PV)) (At E : List UInt8 → Int) (Q : List (List PV) → List (List PV) → Bool) (s : List UInt8)  (h0 : F Fn.cmp BinOp.gtr (Int.ofNat (F Fn.slen s)) 4200 = true) (h1 : F Fn.cmp BinOp.leq 0 4200 = true) (h2 : F Fn.le 0 (F Fn.toN 4200) = true) (h3 : F Fn.le (F Fn.toN 4200) (F Fn.slen s) = true) (h4 : Z (F Fn.scut s 0 (F Fn.toN 4200)) = true) (h5 : Z (F Fn.scut s 0 (F Fn.toN 4200)) = true) (h6 : F Fn.cmp BinOp.eql (E (F Fn.scut s 0 (F Fn.toN 4200))) (E (F Fn.scut s 0 (F Fn.toN 4200))) = true) (h7 : F Fn.cmp BinOp.eql (At (F Fn.scut s 0 (F Fn.toN 4200))) (At (F Fn.scut s 0 (F Fn.toN 4200))) = true) : @S.fnS (symA F) (T' fns (look (ps3s Z P At E Q))) n5 n2 ⟨0, 0⟩ vf3 [.p (.str s)] [] [] = some ((zb true, [], []), []) := by
  cbv
  rw [h0]
  cbv
  rw [h1]
  cbv
  rw [h2]
  cbv
  rw [h3]
  cbv
  rw [h4]
  cbv
  rw [h5]
  cbv
  rw [h6]
  cbv
  rw [h7]
  cbv
theorem sem3f_0 (F : Fns) (fns) (Z : List UInt8 → Bool) (P : List UInt8 → List (List PV)) (At E : List UInt8 → Int) (Q : List (List PV) → List (List PV) → Bool) (s : List UInt8)  (h0 : F Fn.cmp BinOp.gtr (Int.ofNat (F Fn.slen s)) 4200 = false) (h1 : Z s = false) (h2 : Z s = false) (h3 : F Fn.cmp BinOp.eql (E s) (E s) = true) (h4 : F Fn.cmp BinOp.eql (At s) (At s) = true) (h5 : F Fn.le (F Fn.add 0 (F Fn.rlen (P s))) (F Fn.rlen (P s)) = true) (h6 : F Fn.le (F Fn.add 0 (F Fn.rlen (P s))) (F Fn.rlen (P s)) = true) (h7 : Q (F Fn.rpart (P s) 0 (F Fn.rlen (P s))) (F Fn.rpart (P s) 0 (F Fn.rlen (P s))) = true) : @S.fnS (symA F) (T' fns (look (ps3s Z P At E Q))) n5 n2 ⟨0, 0⟩ vf3 [.p (.str s)] [] [] = some ((zb true, [], []), []) := by
  cbv
  rw [h0]
  cbv
  rw [h1]
  cbv
  rw [h2]
  cbv
  rw [h3]
  cbv
  rw [h4]
  cbv
  rw [h5]
  cbv
  rw [h6]
  cbv
  rw [h7]
  cbv
theorem sem3f_1 (F : Fns) (fns) (Z : List UInt8 → Bool) (P : List UInt8 → List (List PV)) (At E : List UInt8 → Int) (Q : List (List PV) → List (List PV) → Bool) (s : List UInt8)  (h0 : F Fn.cmp BinOp.gtr (Int.ofNat (F Fn.slen s)) 4200 = true) (h1 : F Fn.cmp BinOp.leq 0 4200 = true) (h2 : F Fn.le 0 (F Fn.toN 4200) = true) (h3 : F Fn.le (F Fn.toN 4200) (F Fn.slen s) = true) (h4 : Z (F Fn.scut s 0 (F Fn.toN 4200)) = false) (h5 : Z (F Fn.scut s 0 (F Fn.toN 4200)) = false) (h6 : F Fn.cmp BinOp.eql (E (F Fn.scut s 0 (F Fn.toN 4200))) (E (F Fn.scut s 0 (F Fn.toN 4200))) = true) (h7 : F Fn.cmp BinOp.eql (At (F Fn.scut s 0 (F Fn.toN 4200))) (At (F Fn.scut s 0 (F Fn.toN 4200))) = true) (h8 : F Fn.le (F Fn.add 0 (F Fn.rlen (P (F Fn.scut s 0 (F Fn.toN 4200))))) (F Fn.rlen (P (F Fn.scut s 0 (F Fn.toN 4200)))) = true) (h9 : F Fn.le (F Fn.add 0 (F Fn.rlen (P (F Fn.scut s 0 (F Fn.toN 4200))))) (F Fn.rlen (P (F Fn.scut s 0 (F Fn.toN 4200)))) = true) (h10 : Q (F Fn.rpart (P (F Fn.scut s 0 (F Fn.toN 4200))) 0 (F Fn.rlen (P (F Fn.scut s 0 (F Fn.toN 4200))))) (F Fn.rpart (P (F Fn.scut s 0 (F Fn.toN 4200))) 0 (F Fn.rlen (P (F Fn.scut s 0 (F Fn.toN 4200))))) = true) : @S.fnS (symA F) (T' fns (look (ps3s Z P At E Q))) n5 n2 ⟨0, 0⟩ vf3 [.p (.str s)] [] [] = some ((zb true, [], []), []) := by
  cbv
  rw [h0]
  cbv
  rw [h1]
  cbv
  rw [h2]
  cbv
  rw [h3]
  cbv
  rw [h4]
  cbv
  rw [h5]
  cbv
  rw [h6]
  cbv
  rw [h7]
  cbv
  rw [h8]
  cbv
  rw [h9]
  cbv
  rw [h10]
  cbv
end Go.Proofs.Ytkkainkhjimcmaa.L
