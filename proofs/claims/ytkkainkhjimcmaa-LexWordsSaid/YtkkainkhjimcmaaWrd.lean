import Derived.Test.YtkkainkhjimcmaaSpl7
/-
Functions run on values that are not known, each by itself. Printed by program.
-/
namespace Go.Proofs.Ytkkainkhjimcmaa.L
open Go Go.VM
set_option linter.unusedVariables false
set_option maxRecDepth 100000
set_option maxHeartbeats 4000000

def ps5w (Z : List UInt8 → Bool) (P : List UInt8 → List (List PV)) (At E : List UInt8 → Int) : List (Nat × Prim) := [(10, .q qTrue), (7, .q (q7 Z P At E)), (8, .q (q8 Z P At E))]
abbrev PT := List UInt8 → List (List PV)
abbrev AT := List UInt8 → Int
abbrev EV5 (F : Fns) (fns) (Z : GT) (P : PT) (At E : AT) := @S.evS (symA F) (T' fns (look (ps5w Z P At E))) n5
abbrev d5a : VCode := ((VCode.region none [{ dst := some 21, op := VOp.bin BinOp.lss Ek.no (Opd.t 20) (Opd.t 19), after := [], guard := none }] [0, 1, 5, 6, 18, 19, 20, 21, 68] [0, 1, 5, 6, 18, 19, 20, 21, 68]).seq ((VCode.cond (Opd.t 21) VCode.skip (VCode.exit 0)).seq ((VCode.block 1 ((VCode.region none [{ dst := some 22, op := VOp.mv (Opd.t 20), after := [], guard := none }, { dst := some 23, op := VOp.iaddrS 1 (Opd.t 18) (Opd.t 20), after := [], guard := none }, { dst := some 24, op := VOp.load none (Opd.t 23), after := [1], guard := none }, { dst := some 7, op := VOp.asg (Opd.t 22), after := [0, 0, 1, 2], guard := none }, { dst := some 8, op := VOp.asg (Opd.t 24), after := [2, 3, 0, 1, 2, 3], guard := none }] [0, 1, 5, 6, 7, 8, 18, 19, 20, 22, 24, 68] [0, 1, 5, 6, 7, 8, 18, 19, 20, 22, 24, 68]).seq (((VCode.region none [{ dst := some 25, op := VOp.mv (Opd.t 7), after := [], guard := none }, { dst := some 26, op := VOp.bin BinOp.geq Ek.no (Opd.t 25) (Opd.c (SV.p (PV.int IntKind.i64 30))), after := [0], guard := none }] [0, 1, 5, 6, 7, 8, 18, 19, 20, 22, 24, 26, 68] [0, 1, 5, 6, 7, 8, 18, 19, 20, 22, 24, 26, 68]).seq (VCode.cond (Opd.t 26) (VCode.exit 0) VCode.skip)).seq ((VCode.region none [{ dst := some 28, op := VOp.mv (Opd.t 8), after := [], guard := none }, { dst := some 29, op := VOp.call 8 [Opd.t 28], after := [0], guard := none }, { dst := some 27, op := VOp.mv (Opd.t 29), after := [1], guard := none }, { dst := some 30, op := VOp.ext (Opd.t 27) 0, after := [2], guard := none }, { dst := some 31, op := VOp.ext (Opd.t 27) 1, after := [2], guard := none }, { dst := some 32, op := VOp.ext (Opd.t 27) 2, after := [2], guard := none }, { dst := some 9, op := VOp.asg (Opd.t 30), after := [3, 1, 0, 1, 2, 3], guard := none }, { dst := some 10, op := VOp.asg (Opd.t 31), after := [4, 6, 0, 1, 2, 3, 4, 6], guard := none }, { dst := some 11, op := VOp.asg (Opd.t 32), after := [5, 7, 0, 1, 2, 3, 4, 5, 6, 7], guard := none }] [0, 1, 5, 6, 7, 8, 9, 11, 18, 19, 20, 22, 24, 30, 32, 68] [0, 1, 5, 6, 7, 8, 9, 11, 18, 19, 20, 22, 24, 30, 32, 68]).seq (((VCode.region none [{ dst := some 33, op := VOp.mv (Opd.t 11), after := [], guard := none }, { dst := some 34, op := VOp.bin BinOp.neq Ek.no (Opd.t 33) (Opd.c (SV.p (PV.int IntKind.i64 0))), after := [0], guard := none }, { dst := some 35, op := VOp.mv (Opd.t 34), after := [1], guard := none }, { dst := some 36, op := VOp.mv (Opd.t 9), after := [2], guard := some (2, false) }, { dst := some 37, op := VOp.len false (Opd.t 36), after := [3, 2], guard := some (2, false) }, { dst := some 38, op := VOp.bin BinOp.neq Ek.no (Opd.t 37) (Opd.c (SV.p (PV.int IntKind.i64 1))), after := [4, 2], guard := some (2, false) }, { dst := some 39, op := VOp.pick (Opd.t 35) (Opd.c (SV.p (PV.bool true))) (Opd.t 38), after := [2, 5], guard := none }, { dst := some 40, op := VOp.mv (Opd.t 39), after := [6, 2], guard := none }, { dst := some 41, op := VOp.mv (Opd.t 9), after := [7], guard := some (7, false) }, { dst := some 42, op := VOp.iaddrS 4 (Opd.t 41) (Opd.c (SV.p (PV.int IntKind.i64 0))), after := [8, 7], guard := some (7, false) }, { dst := some 43, op := VOp.faddr 1 (Opd.t 42), after := [9, 7], guard := some (7, false) }, { dst := some 44, op := VOp.load none (Opd.t 43), after := [10, 7], guard := some (7, false) }, { dst := some 45, op := VOp.mv (Opd.t 8), after := [7], guard := some (7, false) }, { dst := some 46, op := VOp.bin BinOp.neq Ek.no (Opd.t 44) (Opd.t 45), after := [11, 12, 7], guard := some (7, false) }, { dst := some 47, op := VOp.pick (Opd.t 40) (Opd.c (SV.p (PV.bool true))) (Opd.t 46), after := [7, 13], guard := none }] [0, 1, 5, 6, 7, 8, 18, 19, 20, 22, 24, 47, 68] [0, 1, 5, 6, 7, 8, 18, 19, 20, 22, 24, 47, 68]).seq (VCode.cond (Opd.t 47) (VCode.exit 1) VCode.skip)).seq ((VCode.region none [{ dst := some 12, op := VOp.asg (Opd.c (SV.p (PV.int IntKind.i64 0))), after := [], guard := none }] [0, 1, 5, 6, 7, 8, 12, 18, 19, 20, 22, 24, 68] [0, 1, 5, 6, 7, 8, 12, 18, 19, 20, 22, 24, 68]).seq (((VCode.region none [{ dst := some 48, op := VOp.mv (Opd.t 7), after := [], guard := none }, { dst := some 49, op := VOp.mv (Opd.t 1), after := [], guard := none }, { dst := some 50, op := VOp.len false (Opd.t 49), after := [1], guard := none }, { dst := some 51, op := VOp.bin BinOp.lss Ek.no (Opd.t 48) (Opd.t 50), after := [0, 2], guard := none }] [0, 1, 5, 6, 7, 8, 12, 18, 19, 20, 22, 24, 51, 68] [0, 1, 5, 6, 7, 8, 12, 18, 19, 20, 22, 24, 51, 68]).seq (VCode.cond (Opd.t 51) (VCode.region none [{ dst := some 52, op := VOp.mv (Opd.t 1), after := [], guard := none }, { dst := some 53, op := VOp.mv (Opd.t 7), after := [], guard := none }, { dst := some 54, op := VOp.iaddrS 1 (Opd.t 52) (Opd.t 53), after := [0, 1], guard := none }, { dst := some 55, op := VOp.load none (Opd.t 54), after := [2], guard := none }, { dst := some 56, op := VOp.bin BinOp.and Ek.no (Opd.t 55) (Opd.c (SV.p (PV.int IntKind.i64 3))), after := [3], guard := none }, { dst := some 12, op := VOp.asg (Opd.t 56), after := [4, 0, 1, 2, 3, 4], guard := none }] [0, 1, 5, 6, 8, 12, 18, 19, 20, 24, 68] [0, 1, 5, 6, 8, 12, 18, 19, 20, 24, 68]) VCode.skip)).seq ((VCode.region none [{ dst := some 57, op := VOp.mv (Opd.t 5), after := [], guard := none }, { dst := some 58, op := VOp.mv (Opd.t 8), after := [], guard := none }, { dst := some 59, op := VOp.lit 1 [PV.str []] 4 [(0, Opd.c (SV.p (PV.str [32]))), (1, Opd.c (SV.p (PV.str [9, 32, 13]))), (2, Opd.c (SV.p (PV.str [35, 32, 120, 32, 59, 32, 57, 97, 10]))), (3, Opd.c (SV.p (PV.str [10, 10])))], after := [], guard := none }, { dst := some 60, op := VOp.mv (Opd.t 12), after := [], guard := none }, { dst := some 61, op := VOp.iaddrS 1 (Opd.t 59) (Opd.t 60), after := [2, 3], guard := none }, { dst := some 62, op := VOp.load none (Opd.t 61), after := [4], guard := none }, { dst := some 63, op := VOp.bin BinOp.add Ek.no (Opd.t 58) (Opd.t 62), after := [1, 5], guard := none }, { dst := some 64, op := VOp.bin BinOp.add Ek.no (Opd.t 57) (Opd.t 63), after := [0, 6], guard := none }, { dst := some 5, op := VOp.asg (Opd.t 64), after := [7, 0, 1, 2, 3, 4, 5, 6, 7], guard := none }] [0, 1, 5, 6, 8, 18, 19, 20, 24, 68] [0, 1, 5, 6, 8, 18, 19, 20, 24, 68]).seq (VCode.region none [{ dst := some 65, op := VOp.mv (Opd.t 6), after := [], guard := none }, { dst := some 66, op := VOp.mv (Opd.t 8), after := [], guard := none }, { dst := some 67, op := VOp.lit 1 [PV.str []] 1 [(0, Opd.t 66)], after := [1], guard := none }, { dst := some 68, op := VOp.append false 1 16 (Opd.t 65) (Opd.t 67), after := [0, 2], guard := none }, { dst := some 6, op := VOp.asg (Opd.t 68), after := [3, 3, 0, 1, 2, 3], guard := none }] [0, 1, 5, 6, 18, 19, 20, 68] [0, 1, 5, 6, 18, 19, 20, 68]))))))))).seq (VCode.region none [{ dst := some 69, op := VOp.bin BinOp.add Ek.no (Opd.t 20) (Opd.c (SV.p (PV.int IntKind.i64 1))), after := [], guard := none }, { dst := some 20, op := VOp.mv (Opd.t 69), after := [0], guard := none }] [0, 1, 5, 6, 18, 19, 20, 68] [0, 1, 5, 6, 18, 19, 20, 68]))))
abbrev d5b : VCode := ((VCode.region none [{ dst := some 88, op := VOp.bin BinOp.lss Ek.no (Opd.t 87) (Opd.t 86), after := [], guard := none }] [6, 13, 68, 73, 85, 86, 87, 88] [6, 13, 68, 73, 85, 86, 87, 88]).seq ((VCode.cond (Opd.t 88) VCode.skip (VCode.exit 2)).seq ((VCode.block 3 ((VCode.region none [{ dst := some 89, op := VOp.mv (Opd.t 87), after := [], guard := none }, { dst := some 90, op := VOp.iaddrS 4 (Opd.t 85) (Opd.t 87), after := [], guard := none }, { dst := some 91, op := VOp.load (some 4) (Opd.t 90), after := [1], guard := none }, { dst := some 17, op := VOp.alloc false [PV.int IntKind.i64 0, PV.str [], PV.int IntKind.i64 0, PV.int IntKind.i64 0], after := [], guard := none }, { dst := some 16, op := VOp.asg (Opd.t 89), after := [0, 0, 1, 2, 3], guard := none }, { dst := none, op := VOp.store 4 (Opd.t 17) (Opd.t 91), after := [3, 2, 4, 0, 1, 2, 3, 4], guard := none }] [6, 13, 16, 17, 68, 73, 85, 86, 87, 89] [6, 13, 16, 17, 68, 73, 85, 86, 87, 89]).seq ((VCode.region (some ([], OT.one 0 (OT.one 1 (OT.one 2 (OT.one 3 (OT.one 4 (OT.one 5 (OT.one 6 OT.fin)))))))) [{ dst := some 92, op := VOp.faddr 1 (Opd.t 17), after := [], guard := none }, { dst := some 93, op := VOp.load none (Opd.t 92), after := [0], guard := none }, { dst := some 94, op := VOp.mv (Opd.t 6), after := [], guard := none }, { dst := some 95, op := VOp.mv (Opd.t 16), after := [], guard := none }, { dst := some 96, op := VOp.iaddrS 1 (Opd.t 94) (Opd.t 95), after := [2, 3], guard := none }, { dst := some 97, op := VOp.load none (Opd.t 96), after := [4], guard := none }, { dst := some 98, op := VOp.bin BinOp.neq Ek.no (Opd.t 93) (Opd.t 97), after := [1, 5], guard := none }] [6, 13, 68, 73, 85, 86, 87, 98] [6, 13, 68, 73, 85, 86, 87, 98]).seq (VCode.cond (Opd.t 98) ((VCode.region none [{ dst := some 4, op := VOp.asg (Opd.c (SV.p (PV.bool false))), after := [], guard := none }] [4, 100] [4, 100]).seq VCode.ret) VCode.skip)))).seq (VCode.region none [{ dst := some 99, op := VOp.bin BinOp.add Ek.no (Opd.t 87) (Opd.c (SV.p (PV.int IntKind.i64 1))), after := [], guard := none }, { dst := some 87, op := VOp.mv (Opd.t 99), after := [0], guard := none }] [6, 13, 68, 73, 85, 86, 87] [6, 13, 68, 73, 85, 86, 87]))))
def a5_0 : VCode := (.region none vf5r4 [0, 1, 5, 6, 18, 19, 20, 21, 68] [0, 1, 5, 6, 18, 19, 20, 21, 68])
def a5_3 : VCode := (.region none vf5r14 [0, 1, 5, 6, 18, 19, 20, 68] [0, 1, 5, 6, 18, 19, 20, 68])
def b5_0 : VCode := (.region none vf5r5 [0, 1, 5, 6, 7, 8, 18, 19, 20, 22, 24, 68] [0, 1, 5, 6, 7, 8, 18, 19, 20, 22, 24, 68])
def b5_1 : VCode := (.seq (.region none vf5r6 [0, 1, 5, 6, 7, 8, 18, 19, 20, 22, 24, 26, 68] [0, 1, 5, 6, 7, 8, 18, 19, 20, 22, 24, 26, 68]) (.cond (.t 26) (.exit 0) .skip))
def b5_2 : VCode := (.region none vf5r7 [0, 1, 5, 6, 7, 8, 9, 11, 18, 19, 20, 22, 24, 30, 32, 68] [0, 1, 5, 6, 7, 8, 9, 11, 18, 19, 20, 22, 24, 30, 32, 68])
def b5_3 : VCode := (.seq (.region none vf5r8 [0, 1, 5, 6, 7, 8, 18, 19, 20, 22, 24, 47, 68] [0, 1, 5, 6, 7, 8, 18, 19, 20, 22, 24, 47, 68]) (.cond (.t 47) (.exit 1) .skip))
def b5_4 : VCode := (.region none vf5r9 [0, 1, 5, 6, 7, 8, 12, 18, 19, 20, 22, 24, 68] [0, 1, 5, 6, 7, 8, 12, 18, 19, 20, 22, 24, 68])
def b5_5 : VCode := (.seq (.region none vf5r10 [0, 1, 5, 6, 7, 8, 12, 18, 19, 20, 22, 24, 51, 68] [0, 1, 5, 6, 7, 8, 12, 18, 19, 20, 22, 24, 51, 68]) (.cond (.t 51) (.region none vf5r11 [0, 1, 5, 6, 8, 12, 18, 19, 20, 24, 68] [0, 1, 5, 6, 8, 12, 18, 19, 20, 24, 68]) .skip))
def b5_6 : VCode := (.region none vf5r12 [0, 1, 5, 6, 8, 18, 19, 20, 24, 68] [0, 1, 5, 6, 8, 18, 19, 20, 24, 68])
def b5_7 : VCode := (.region none vf5r13 [0, 1, 5, 6, 18, 19, 20, 68] [0, 1, 5, 6, 18, 19, 20, 68])
theorem u0N_0 (F : Fns) (fns) (Z : GT) (P : PT) (At E : AT)  (Lp : LPT) (s w y : List UInt8) (ws ts gs : List (List PV)) (g0 : PV) (i n d : Int)    : EV5 F fns Z P At E Lp ⟨0, 0⟩ a5_0 { env := [(0, SV.p (PV.ro 1 ws)), (1, SV.p g0), (5, zs s), (6, zn), (18, SV.p (PV.ro 1 ws)), (19, zi n), (20, zi i), (68, uu)], fr := [(17, [])], hp := [], out := [] } = some (Ex.normal, { env := [(0, SV.p (PV.ro 1 ws)), (1, SV.p g0), (5, zs s), (6, zn), (18, SV.p (PV.ro 1 ws)), (19, zi n), (20, zi i), (21, SV.p (PV.bool (F Fn.cmp BinOp.lss i n))), (68, uu)], fr := [(17, [])], hp := [], out := [] }) := by
  cbv
theorem u1N_0 (F : Fns) (fns) (Z : GT) (P : PT) (At E : AT)  (Lp : LPT) (s w y : List UInt8) (ws ts gs : List (List PV)) (g0 : PV) (i n d : Int)  (y0_0 : List UInt8) (h0 : F Fn.cmp BinOp.leq 0 i = true) (h1 : F Fn.rget ws (F Fn.toN i) = some [PV.str y0_0]) : EV5 F fns Z P At E Lp ⟨0, 0⟩ b5_0 { env := [(0, SV.p (PV.ro 1 ws)), (1, SV.p g0), (5, zs s), (6, zn), (18, SV.p (PV.ro 1 ws)), (19, zi n), (20, zi i), (21, zb true), (68, uu)], fr := [(17, [])], hp := [], out := [] } = some (Ex.normal, { env := [(0, SV.p (PV.ro 1 ws)), (1, SV.p g0), (5, zs s), (6, zn), (7, zi i), (8, zs y0_0), (18, SV.p (PV.ro 1 ws)), (19, zi n), (20, zi i), (22, zi i), (24, zs y0_0), (68, uu)], fr := [(17, [])], hp := [], out := [] }) := by
  cbv
  rw [h0]
  cbv
  rw [h1]
  cbv
theorem u2N_0 (F : Fns) (fns) (Z : GT) (P : PT) (At E : AT)  (Lp : LPT) (s w y : List UInt8) (ws ts gs : List (List PV)) (g0 : PV) (i n d : Int)   (h0 : F Fn.cmp BinOp.geq i 30 = true) : EV5 F fns Z P At E Lp ⟨0, 0⟩ b5_1 { env := [(0, SV.p (PV.ro 1 ws)), (1, SV.p g0), (5, zs s), (6, zn), (7, zi i), (8, zs w), (18, SV.p (PV.ro 1 ws)), (19, zi n), (20, zi i), (22, zi i), (24, zs w), (68, uu)], fr := [(17, [])], hp := [], out := [] } = some (Ex.exit 0, { env := [(0, SV.p (PV.ro 1 ws)), (1, SV.p g0), (5, zs s), (6, zn), (7, zi i), (8, zs w), (18, SV.p (PV.ro 1 ws)), (19, zi n), (20, zi i), (22, zi i), (24, zs w), (26, zb true), (68, uu)], fr := [(17, [])], hp := [], out := [] }) := by
  cbv
  rw [h0]
  cbv
theorem u2N_1 (F : Fns) (fns) (Z : GT) (P : PT) (At E : AT)  (Lp : LPT) (s w y : List UInt8) (ws ts gs : List (List PV)) (g0 : PV) (i n d : Int)   (h0 : F Fn.cmp BinOp.geq i 30 = false) : EV5 F fns Z P At E Lp ⟨0, 0⟩ b5_1 { env := [(0, SV.p (PV.ro 1 ws)), (1, SV.p g0), (5, zs s), (6, zn), (7, zi i), (8, zs w), (18, SV.p (PV.ro 1 ws)), (19, zi n), (20, zi i), (22, zi i), (24, zs w), (68, uu)], fr := [(17, [])], hp := [], out := [] } = some (Ex.normal, { env := [(0, SV.p (PV.ro 1 ws)), (1, SV.p g0), (5, zs s), (6, zn), (7, zi i), (8, zs w), (18, SV.p (PV.ro 1 ws)), (19, zi n), (20, zi i), (22, zi i), (24, zs w), (26, zb false), (68, uu)], fr := [(17, [])], hp := [], out := [] }) := by
  cbv
  rw [h0]
  cbv
theorem u3Nt_0 (F : Fns) (fns) (Z : GT) (P : PT) (At E : AT)  (Lp : LPT) (s w y : List UInt8) (ws ts gs : List (List PV)) (g0 : PV) (i n d : Int)   (h0 : Z w = true) : EV5 F fns Z P At E Lp ⟨0, 0⟩ b5_2 { env := [(0, SV.p (PV.ro 1 ws)), (1, SV.p g0), (5, zs s), (6, zn), (7, zi i), (8, zs w), (18, SV.p (PV.ro 1 ws)), (19, zi n), (20, zi i), (22, zi i), (24, zs w), (26, zb false), (68, uu)], fr := [(17, [])], hp := [], out := [] } = some (Ex.normal, { env := [(0, SV.p (PV.ro 1 ws)), (1, SV.p g0), (5, zs s), (6, zn), (7, zi i), (8, zs w), (9, zn), (11, SV.p (PV.int IntKind.i64 (E w))), (18, SV.p (PV.ro 1 ws)), (19, zi n), (20, zi i), (22, zi i), (24, zs w), (30, zn), (32, SV.p (PV.int IntKind.i64 (E w))), (68, uu)], fr := [(17, [])], hp := [], out := [] }) := by
  cbv
  rw [h0]
  cbv
theorem u3Nf_0 (F : Fns) (fns) (Z : GT) (P : PT) (At E : AT)  (Lp : LPT) (s w y : List UInt8) (ws ts gs : List (List PV)) (g0 : PV) (i n d : Int)   (h0 : Z w = false) : EV5 F fns Z P At E Lp ⟨0, 0⟩ b5_2 { env := [(0, SV.p (PV.ro 1 ws)), (1, SV.p g0), (5, zs s), (6, zn), (7, zi i), (8, zs w), (18, SV.p (PV.ro 1 ws)), (19, zi n), (20, zi i), (22, zi i), (24, zs w), (26, zb false), (68, uu)], fr := [(17, [])], hp := [], out := [] } = some (Ex.normal, { env := [(0, SV.p (PV.ro 1 ws)), (1, SV.p g0), (5, zs s), (6, zn), (7, zi i), (8, zs w), (9, SV.own 4 (P w)), (11, SV.p (PV.int IntKind.i64 (E w))), (18, SV.p (PV.ro 1 ws)), (19, zi n), (20, zi i), (22, zi i), (24, zs w), (30, uu), (32, SV.p (PV.int IntKind.i64 (E w))), (68, uu)], fr := [(17, [])], hp := [], out := [] }) := by
  cbv
  rw [h0]
  cbv
theorem u4Nt_0 (F : Fns) (fns) (Z : GT) (P : PT) (At E : AT)  (Lp : LPT) (s w y : List UInt8) (ws ts gs : List (List PV)) (g0 : PV) (i n d : Int) (ls : List (List PV))   (h0 : F Fn.cmp BinOp.neq d 0 = true) : EV5 F fns Z P At E Lp ⟨0, 0⟩ b5_3 { env := [(0, SV.p (PV.ro 1 ws)), (1, SV.p g0), (5, zs s), (6, zn), (7, zi i), (8, zs w), (9, zn), (11, zi d), (18, SV.p (PV.ro 1 ws)), (19, zi n), (20, zi i), (22, zi i), (24, zs w), (30, zn), (32, zi d), (68, uu)], fr := [(17, [])], hp := [], out := [] } = some (Ex.exit 1, { env := [(0, SV.p (PV.ro 1 ws)), (1, SV.p g0), (5, zs s), (6, zn), (7, zi i), (8, zs w), (18, SV.p (PV.ro 1 ws)), (19, zi n), (20, zi i), (22, zi i), (24, zs w), (47, zb true), (68, uu)], fr := [(17, [])], hp := [], out := [] }) := by
  cbv
  rw [h0]
  cbv
theorem u4Nt_1 (F : Fns) (fns) (Z : GT) (P : PT) (At E : AT)  (Lp : LPT) (s w y : List UInt8) (ws ts gs : List (List PV)) (g0 : PV) (i n d : Int) (ls : List (List PV))   (h0 : F Fn.cmp BinOp.neq d 0 = false) (h1 : F Fn.cmp BinOp.neq (Int.ofNat 0) 1 = true) : EV5 F fns Z P At E Lp ⟨0, 0⟩ b5_3 { env := [(0, SV.p (PV.ro 1 ws)), (1, SV.p g0), (5, zs s), (6, zn), (7, zi i), (8, zs w), (9, zn), (11, zi d), (18, SV.p (PV.ro 1 ws)), (19, zi n), (20, zi i), (22, zi i), (24, zs w), (30, zn), (32, zi d), (68, uu)], fr := [(17, [])], hp := [], out := [] } = some (Ex.exit 1, { env := [(0, SV.p (PV.ro 1 ws)), (1, SV.p g0), (5, zs s), (6, zn), (7, zi i), (8, zs w), (18, SV.p (PV.ro 1 ws)), (19, zi n), (20, zi i), (22, zi i), (24, zs w), (47, zb true), (68, uu)], fr := [(17, [])], hp := [], out := [] }) := by
  cbv
  rw [h0]
  cbv
  rw [h1]
  cbv
theorem u4Nf_0 (F : Fns) (fns) (Z : GT) (P : PT) (At E : AT)  (Lp : LPT) (s w y : List UInt8) (ws ts gs : List (List PV)) (g0 : PV) (i n d : Int) (ls : List (List PV))   (h0 : F Fn.cmp BinOp.neq d 0 = true) : EV5 F fns Z P At E Lp ⟨0, 0⟩ b5_3 { env := [(0, SV.p (PV.ro 1 ws)), (1, SV.p g0), (5, zs s), (6, zn), (7, zi i), (8, zs w), (9, SV.own 4 ls), (11, zi d), (18, SV.p (PV.ro 1 ws)), (19, zi n), (20, zi i), (22, zi i), (24, zs w), (30, uu), (32, zi d), (68, uu)], fr := [(17, [])], hp := [], out := [] } = some (Ex.exit 1, { env := [(0, SV.p (PV.ro 1 ws)), (1, SV.p g0), (5, zs s), (6, zn), (7, zi i), (8, zs w), (18, SV.p (PV.ro 1 ws)), (19, zi n), (20, zi i), (22, zi i), (24, zs w), (47, zb true), (68, uu)], fr := [(17, [])], hp := [], out := [] }) := by
  cbv
  rw [h0]
  cbv
theorem u4Nf_1 (F : Fns) (fns) (Z : GT) (P : PT) (At E : AT)  (Lp : LPT) (s w y : List UInt8) (ws ts gs : List (List PV)) (g0 : PV) (i n d : Int) (ls : List (List PV))   (h0 : F Fn.cmp BinOp.neq d 0 = false) (h1 : F Fn.cmp BinOp.neq (Int.ofNat (F Fn.rlen ls)) 1 = true) : EV5 F fns Z P At E Lp ⟨0, 0⟩ b5_3 { env := [(0, SV.p (PV.ro 1 ws)), (1, SV.p g0), (5, zs s), (6, zn), (7, zi i), (8, zs w), (9, SV.own 4 ls), (11, zi d), (18, SV.p (PV.ro 1 ws)), (19, zi n), (20, zi i), (22, zi i), (24, zs w), (30, uu), (32, zi d), (68, uu)], fr := [(17, [])], hp := [], out := [] } = some (Ex.exit 1, { env := [(0, SV.p (PV.ro 1 ws)), (1, SV.p g0), (5, zs s), (6, zn), (7, zi i), (8, zs w), (18, SV.p (PV.ro 1 ws)), (19, zi n), (20, zi i), (22, zi i), (24, zs w), (47, zb true), (68, uu)], fr := [(17, [])], hp := [], out := [] }) := by
  cbv
  rw [h0]
  cbv
  rw [h1]
  cbv
theorem u4Nf_2 (F : Fns) (fns) (Z : GT) (P : PT) (At E : AT)  (Lp : LPT) (s w y : List UInt8) (ws ts gs : List (List PV)) (g0 : PV) (i n d : Int) (ls : List (List PV))  (y0_0 : Int) (y0_1 : List UInt8) (y0_2 : Int) (y0_3 : Int) (h0 : F Fn.cmp BinOp.neq d 0 = false) (h1 : F Fn.cmp BinOp.neq (Int.ofNat (F Fn.rlen ls)) 1 = false) (h2 : F Fn.cmp BinOp.leq 0 0 = true) (h3 : F Fn.le (F Fn.rlen ls) (F Fn.toN 0) = false) (h4 : F Fn.rget ls (F Fn.add 0 (F Fn.toN 0)) = some [PV.int IntKind.i64 y0_0, PV.str y0_1, PV.int IntKind.i64 y0_2, PV.int IntKind.i64 y0_3]) (h5 : F Fn.scmp BinOp.neq y0_1 w = true) : EV5 F fns Z P At E Lp ⟨0, 0⟩ b5_3 { env := [(0, SV.p (PV.ro 1 ws)), (1, SV.p g0), (5, zs s), (6, zn), (7, zi i), (8, zs w), (9, SV.own 4 ls), (11, zi d), (18, SV.p (PV.ro 1 ws)), (19, zi n), (20, zi i), (22, zi i), (24, zs w), (30, uu), (32, zi d), (68, uu)], fr := [(17, [])], hp := [], out := [] } = some (Ex.exit 1, { env := [(0, SV.p (PV.ro 1 ws)), (1, SV.p g0), (5, zs s), (6, zn), (7, zi i), (8, zs w), (18, SV.p (PV.ro 1 ws)), (19, zi n), (20, zi i), (22, zi i), (24, zs w), (47, zb true), (68, uu)], fr := [(17, [])], hp := [], out := [] }) := by
  cbv
  rw [h0]
  cbv
  rw [h1]
  cbv
  rw [h2]
  cbv
  rw [h3]
  cbv
  rw [h4]
  cbv
  rw [h5]
  cbv
theorem u4Nf_3 (F : Fns) (fns) (Z : GT) (P : PT) (At E : AT)  (Lp : LPT) (s w y : List UInt8) (ws ts gs : List (List PV)) (g0 : PV) (i n d : Int) (ls : List (List PV))  (y0_0 : Int) (y0_1 : List UInt8) (y0_2 : Int) (y0_3 : Int) (h0 : F Fn.cmp BinOp.neq d 0 = false) (h1 : F Fn.cmp BinOp.neq (Int.ofNat (F Fn.rlen ls)) 1 = false) (h2 : F Fn.cmp BinOp.leq 0 0 = true) (h3 : F Fn.le (F Fn.rlen ls) (F Fn.toN 0) = false) (h4 : F Fn.rget ls (F Fn.add 0 (F Fn.toN 0)) = some [PV.int IntKind.i64 y0_0, PV.str y0_1, PV.int IntKind.i64 y0_2, PV.int IntKind.i64 y0_3]) (h5 : F Fn.scmp BinOp.neq y0_1 w = false) : EV5 F fns Z P At E Lp ⟨0, 0⟩ b5_3 { env := [(0, SV.p (PV.ro 1 ws)), (1, SV.p g0), (5, zs s), (6, zn), (7, zi i), (8, zs w), (9, SV.own 4 ls), (11, zi d), (18, SV.p (PV.ro 1 ws)), (19, zi n), (20, zi i), (22, zi i), (24, zs w), (30, uu), (32, zi d), (68, uu)], fr := [(17, [])], hp := [], out := [] } = some (Ex.normal, { env := [(0, SV.p (PV.ro 1 ws)), (1, SV.p g0), (5, zs s), (6, zn), (7, zi i), (8, zs w), (18, SV.p (PV.ro 1 ws)), (19, zi n), (20, zi i), (22, zi i), (24, zs w), (47, zb false), (68, uu)], fr := [(17, [])], hp := [], out := [] }) := by
  cbv
  rw [h0]
  cbv
  rw [h1]
  cbv
  rw [h2]
  cbv
  rw [h3]
  cbv
  rw [h4]
  cbv
  rw [h5]
  cbv
theorem u5N_0 (F : Fns) (fns) (Z : GT) (P : PT) (At E : AT)  (Lp : LPT) (s w y : List UInt8) (ws ts gs : List (List PV)) (g0 : PV) (i n d : Int)    : EV5 F fns Z P At E Lp ⟨0, 0⟩ b5_4 { env := [(0, SV.p (PV.ro 1 ws)), (1, SV.p g0), (5, zs s), (6, zn), (7, zi i), (8, zs w), (18, SV.p (PV.ro 1 ws)), (19, zi n), (20, zi i), (22, zi i), (24, zs w), (47, zb false), (68, uu)], fr := [(17, [])], hp := [], out := [] } = some (Ex.normal, { env := [(0, SV.p (PV.ro 1 ws)), (1, SV.p g0), (5, zs s), (6, zn), (7, zi i), (8, zs w), (12, zi 0), (18, SV.p (PV.ro 1 ws)), (19, zi n), (20, zi i), (22, zi i), (24, zs w), (68, uu)], fr := [(17, [])], hp := [], out := [] }) := by
  cbv
theorem u6Nn_0 (F : Fns) (fns) (Z : GT) (P : PT) (At E : AT)  (Lp : LPT) (s w y : List UInt8) (ws ts gs : List (List PV)) (g0 : PV) (i n d : Int)   (h0 : F Fn.cmp BinOp.lss i (Int.ofNat 0) = false) : EV5 F fns Z P At E Lp ⟨0, 0⟩ b5_5 { env := [(0, SV.p (PV.ro 1 ws)), (1, zn), (5, zs s), (6, zn), (7, zi i), (8, zs w), (12, zi 0), (18, SV.p (PV.ro 1 ws)), (19, zi n), (20, zi i), (22, zi i), (24, zs w), (68, uu)], fr := [(17, [])], hp := [], out := [] } = some (Ex.normal, { env := [(0, SV.p (PV.ro 1 ws)), (1, zn), (5, zs s), (6, zn), (7, zi i), (8, zs w), (12, zi 0), (18, SV.p (PV.ro 1 ws)), (19, zi n), (20, zi i), (22, zi i), (24, zs w), (51, zb false), (68, uu)], fr := [(17, [])], hp := [], out := [] }) := by
  cbv
  rw [h0]
  cbv
theorem u6Nr_0 (F : Fns) (fns) (Z : GT) (P : PT) (At E : AT)  (Lp : LPT) (s w y : List UInt8) (ws ts gs : List (List PV)) (g0 : PV) (i n d : Int)   (h0 : F Fn.cmp BinOp.lss i (Int.ofNat (F Fn.rlen gs)) = false) : EV5 F fns Z P At E Lp ⟨0, 0⟩ b5_5 { env := [(0, SV.p (PV.ro 1 ws)), (1, SV.p (PV.ro 1 gs)), (5, zs s), (6, zn), (7, zi i), (8, zs w), (12, zi 0), (18, SV.p (PV.ro 1 ws)), (19, zi n), (20, zi i), (22, zi i), (24, zs w), (68, uu)], fr := [(17, [])], hp := [], out := [] } = some (Ex.normal, { env := [(0, SV.p (PV.ro 1 ws)), (1, SV.p (PV.ro 1 gs)), (5, zs s), (6, zn), (7, zi i), (8, zs w), (12, zi 0), (18, SV.p (PV.ro 1 ws)), (19, zi n), (20, zi i), (22, zi i), (24, zs w), (51, zb false), (68, uu)], fr := [(17, [])], hp := [], out := [] }) := by
  cbv
  rw [h0]
  cbv
theorem u6Nr_1 (F : Fns) (fns) (Z : GT) (P : PT) (At E : AT)  (Lp : LPT) (s w y : List UInt8) (ws ts gs : List (List PV)) (g0 : PV) (i n d : Int)  (y0_0 : Int) (h0 : F Fn.cmp BinOp.lss i (Int.ofNat (F Fn.rlen gs)) = true) (h1 : F Fn.cmp BinOp.leq 0 i = true) (h2 : F Fn.rget gs (F Fn.toN i) = some [PV.int IntKind.i64 y0_0]) : EV5 F fns Z P At E Lp ⟨0, 0⟩ b5_5 { env := [(0, SV.p (PV.ro 1 ws)), (1, SV.p (PV.ro 1 gs)), (5, zs s), (6, zn), (7, zi i), (8, zs w), (12, zi 0), (18, SV.p (PV.ro 1 ws)), (19, zi n), (20, zi i), (22, zi i), (24, zs w), (68, uu)], fr := [(17, [])], hp := [], out := [] } = some (Ex.normal, { env := [(0, SV.p (PV.ro 1 ws)), (1, SV.p (PV.ro 1 gs)), (5, zs s), (6, zn), (8, zs w), (12, SV.p (PV.int IntKind.i64 (F Fn.ar BinOp.and IntKind.i64 y0_0 3))), (18, SV.p (PV.ro 1 ws)), (19, zi n), (20, zi i), (24, zs w), (68, uu)], fr := [(17, [])], hp := [], out := [] }) := by
  cbv
  rw [h0]
  cbv
  rw [h1]
  cbv
  rw [h2]
  cbv
theorem u8N_0 (F : Fns) (fns) (Z : GT) (P : PT) (At E : AT)  (Lp : LPT) (s w y : List UInt8) (ws ts gs : List (List PV)) (g0 : PV) (i n d : Int)   (h0 : F Fn.le (F Fn.add 0 (F Fn.rlen [[PV.str w]])) (F Fn.rlen [[PV.str w]]) = true) (h1 : F Fn.lens 1 (F Fn.rpart [[PV.str w]] 0 (F Fn.rlen [[PV.str w]])) = true) (h2 : F Fn.emp (F Fn.rpart [[PV.str w]] 0 (F Fn.rlen [[PV.str w]])) = false) (h3 : F Fn.afit 0 (F Fn.rpart [[PV.str w]] 0 (F Fn.rlen [[PV.str w]])) 16 = true) : EV5 F fns Z P At E Lp ⟨0, 0⟩ b5_7 { env := [(0, SV.p (PV.ro 1 ws)), (1, SV.p g0), (5, zs s), (6, zn), (8, zs w), (18, SV.p (PV.ro 1 ws)), (19, zi n), (20, zi i), (24, zs w), (68, uu)], fr := [(17, [])], hp := [], out := [] } = some (Ex.normal, { env := [(0, SV.p (PV.ro 1 ws)), (1, SV.p g0), (5, zs s), (6, SV.own 1 (F Fn.rpart [[PV.str w]] 0 (F Fn.rlen [[PV.str w]]))), (18, SV.p (PV.ro 1 ws)), (19, zi n), (20, zi i), (68, uu)], fr := [(17, [])], hp := [], out := [] }) := by
  cbv
  rw [h0]
  cbv
  rw [h1]
  cbv
  rw [if_neg (by exact fun h => Bool.noConfusion (h2.symm.trans h))]
  cbv
  rw [h3]
  cbv
theorem u9N_0 (F : Fns) (fns) (Z : GT) (P : PT) (At E : AT)  (Lp : LPT) (s w y : List UInt8) (ws ts gs : List (List PV)) (g0 : PV) (i n d : Int)    : EV5 F fns Z P At E Lp ⟨0, 0⟩ a5_3 { env := [(0, SV.p (PV.ro 1 ws)), (1, SV.p g0), (5, zs s), (6, zn), (18, SV.p (PV.ro 1 ws)), (19, zi n), (20, zi i), (68, uu)], fr := [(17, [])], hp := [], out := [] } = some (Ex.normal, { env := [(0, SV.p (PV.ro 1 ws)), (1, SV.p g0), (5, zs s), (6, zn), (18, SV.p (PV.ro 1 ws)), (19, zi n), (20, SV.p (PV.int IntKind.i64 (F Fn.ar BinOp.add IntKind.i64 i 1))), (68, uu)], fr := [(17, [])], hp := [], out := [] }) := by
  cbv
theorem u9eN_0 (F : Fns) (fns) (Z : GT) (P : PT) (At E : AT)  (Lp : LPT) (s w y : List UInt8) (ws ts gs : List (List PV)) (g0 : PV) (i n d : Int)    : EV5 F fns Z P At E Lp ⟨0, 0⟩ a5_3 { env := [(0, SV.p (PV.ro 1 ws)), (1, SV.p g0), (5, zs s), (6, zn), (7, zi i), (8, zs w), (18, SV.p (PV.ro 1 ws)), (19, zi n), (20, zi i), (22, zi i), (24, zs w), (47, zb true), (68, uu)], fr := [(17, [])], hp := [], out := [] } = some (Ex.normal, { env := [(0, SV.p (PV.ro 1 ws)), (1, SV.p g0), (5, zs s), (6, zn), (18, SV.p (PV.ro 1 ws)), (19, zi n), (20, SV.p (PV.int IntKind.i64 (F Fn.ar BinOp.add IntKind.i64 i 1))), (68, uu)], fr := [(17, [])], hp := [], out := [] }) := by
  cbv
theorem u7Np_0 (F : Fns) (fns) (Z : GT) (P : PT) (At E : AT)  (Lp : LPT) (s w y : List UInt8) (ws ts gs : List (List PV)) (g0 : PV) (i n d : Int)  (y0_0 : List UInt8) (h0 : F Fn.cmp BinOp.leq 0 0 = true) (h1 : F Fn.le (F Fn.rlen [[PV.str [32]], [PV.str [9, 32, 13]], [PV.str [35, 32, 120, 32, 59, 32, 57, 97, 10]], [PV.str [10, 10]]]) (F Fn.toN 0) = false) (h2 : F Fn.rget [[PV.str [32]], [PV.str [9, 32, 13]], [PV.str [35, 32, 120, 32, 59, 32, 57, 97, 10]], [PV.str [10, 10]]] (F Fn.add 0 (F Fn.toN 0)) = some [PV.str y0_0]) (h3 : F Fn.sfit w y0_0 = true) (h4 : F Fn.sfit s (F Fn.scat w y0_0) = true) : EV5 F fns Z P At E Lp ⟨0, 0⟩ b5_6 { env := [(0, SV.p (PV.ro 1 ws)), (1, SV.p g0), (5, zs s), (6, zn), (7, zi i), (8, zs w), (12, zi 0), (18, SV.p (PV.ro 1 ws)), (19, zi n), (20, zi i), (22, zi i), (24, zs w), (51, zb false), (68, uu)], fr := [(17, [])], hp := [], out := [] } = some (Ex.normal, { env := [(0, SV.p (PV.ro 1 ws)), (1, SV.p g0), (5, SV.p (PV.str (F Fn.scat s (F Fn.scat w y0_0)))), (6, zn), (8, zs w), (18, SV.p (PV.ro 1 ws)), (19, zi n), (20, zi i), (24, zs w), (68, uu)], fr := [(17, [])], hp := [], out := [] }) := by
  cbv
  rw [h0]
  cbv
  rw [h1]
  cbv
  rw [h2]
  cbv
  rw [h3]
  cbv
  rw [h4]
  cbv
theorem u7Nq_0 (F : Fns) (fns) (Z : GT) (P : PT) (At E : AT)  (Lp : LPT) (s w y : List UInt8) (ws ts gs : List (List PV)) (g0 : PV) (i n d : Int)  (y0_0 : List UInt8) (h0 : F Fn.cmp BinOp.leq 0 d = true) (h1 : F Fn.le (F Fn.rlen [[PV.str [32]], [PV.str [9, 32, 13]], [PV.str [35, 32, 120, 32, 59, 32, 57, 97, 10]], [PV.str [10, 10]]]) (F Fn.toN d) = false) (h2 : F Fn.rget [[PV.str [32]], [PV.str [9, 32, 13]], [PV.str [35, 32, 120, 32, 59, 32, 57, 97, 10]], [PV.str [10, 10]]] (F Fn.add 0 (F Fn.toN d)) = some [PV.str y0_0]) (h3 : F Fn.sfit w y0_0 = true) (h4 : F Fn.sfit s (F Fn.scat w y0_0) = true) : EV5 F fns Z P At E Lp ⟨0, 0⟩ b5_6 { env := [(0, SV.p (PV.ro 1 ws)), (1, SV.p g0), (5, zs s), (6, zn), (8, zs w), (12, zi d), (18, SV.p (PV.ro 1 ws)), (19, zi n), (20, zi i), (24, zs w), (68, uu)], fr := [(17, [])], hp := [], out := [] } = some (Ex.normal, { env := [(0, SV.p (PV.ro 1 ws)), (1, SV.p g0), (5, SV.p (PV.str (F Fn.scat s (F Fn.scat w y0_0)))), (6, zn), (8, zs w), (18, SV.p (PV.ro 1 ws)), (19, zi n), (20, zi i), (24, zs w), (68, uu)], fr := [(17, [])], hp := [], out := [] }) := by
  cbv
  rw [h0]
  cbv
  rw [h1]
  cbv
  rw [h2]
  cbv
  rw [h3]
  cbv
  rw [h4]
  cbv
theorem u0O_0 (F : Fns) (fns) (Z : GT) (P : PT) (At E : AT)  (Lp : LPT) (s w y : List UInt8) (ws ts gs : List (List PV)) (g0 : PV) (i n d : Int)    : EV5 F fns Z P At E Lp ⟨0, 0⟩ a5_0 { env := [(0, SV.p (PV.ro 1 ws)), (1, SV.p g0), (5, zs s), (6, SV.own 1 ts), (18, SV.p (PV.ro 1 ws)), (19, zi n), (20, zi i), (68, uu)], fr := [(17, [])], hp := [], out := [] } = some (Ex.normal, { env := [(0, SV.p (PV.ro 1 ws)), (1, SV.p g0), (5, zs s), (6, SV.own 1 ts), (18, SV.p (PV.ro 1 ws)), (19, zi n), (20, zi i), (21, SV.p (PV.bool (F Fn.cmp BinOp.lss i n))), (68, uu)], fr := [(17, [])], hp := [], out := [] }) := by
  cbv
theorem u1O_0 (F : Fns) (fns) (Z : GT) (P : PT) (At E : AT)  (Lp : LPT) (s w y : List UInt8) (ws ts gs : List (List PV)) (g0 : PV) (i n d : Int)  (y0_0 : List UInt8) (h0 : F Fn.cmp BinOp.leq 0 i = true) (h1 : F Fn.rget ws (F Fn.toN i) = some [PV.str y0_0]) : EV5 F fns Z P At E Lp ⟨0, 0⟩ b5_0 { env := [(0, SV.p (PV.ro 1 ws)), (1, SV.p g0), (5, zs s), (6, SV.own 1 ts), (18, SV.p (PV.ro 1 ws)), (19, zi n), (20, zi i), (21, zb true), (68, uu)], fr := [(17, [])], hp := [], out := [] } = some (Ex.normal, { env := [(0, SV.p (PV.ro 1 ws)), (1, SV.p g0), (5, zs s), (6, SV.own 1 ts), (7, zi i), (8, zs y0_0), (18, SV.p (PV.ro 1 ws)), (19, zi n), (20, zi i), (22, zi i), (24, zs y0_0), (68, uu)], fr := [(17, [])], hp := [], out := [] }) := by
  cbv
  rw [h0]
  cbv
  rw [h1]
  cbv
theorem u2O_0 (F : Fns) (fns) (Z : GT) (P : PT) (At E : AT)  (Lp : LPT) (s w y : List UInt8) (ws ts gs : List (List PV)) (g0 : PV) (i n d : Int)   (h0 : F Fn.cmp BinOp.geq i 30 = true) : EV5 F fns Z P At E Lp ⟨0, 0⟩ b5_1 { env := [(0, SV.p (PV.ro 1 ws)), (1, SV.p g0), (5, zs s), (6, SV.own 1 ts), (7, zi i), (8, zs w), (18, SV.p (PV.ro 1 ws)), (19, zi n), (20, zi i), (22, zi i), (24, zs w), (68, uu)], fr := [(17, [])], hp := [], out := [] } = some (Ex.exit 0, { env := [(0, SV.p (PV.ro 1 ws)), (1, SV.p g0), (5, zs s), (6, SV.own 1 ts), (7, zi i), (8, zs w), (18, SV.p (PV.ro 1 ws)), (19, zi n), (20, zi i), (22, zi i), (24, zs w), (26, zb true), (68, uu)], fr := [(17, [])], hp := [], out := [] }) := by
  cbv
  rw [h0]
  cbv
theorem u2O_1 (F : Fns) (fns) (Z : GT) (P : PT) (At E : AT)  (Lp : LPT) (s w y : List UInt8) (ws ts gs : List (List PV)) (g0 : PV) (i n d : Int)   (h0 : F Fn.cmp BinOp.geq i 30 = false) : EV5 F fns Z P At E Lp ⟨0, 0⟩ b5_1 { env := [(0, SV.p (PV.ro 1 ws)), (1, SV.p g0), (5, zs s), (6, SV.own 1 ts), (7, zi i), (8, zs w), (18, SV.p (PV.ro 1 ws)), (19, zi n), (20, zi i), (22, zi i), (24, zs w), (68, uu)], fr := [(17, [])], hp := [], out := [] } = some (Ex.normal, { env := [(0, SV.p (PV.ro 1 ws)), (1, SV.p g0), (5, zs s), (6, SV.own 1 ts), (7, zi i), (8, zs w), (18, SV.p (PV.ro 1 ws)), (19, zi n), (20, zi i), (22, zi i), (24, zs w), (26, zb false), (68, uu)], fr := [(17, [])], hp := [], out := [] }) := by
  cbv
  rw [h0]
  cbv
theorem u3Ot_0 (F : Fns) (fns) (Z : GT) (P : PT) (At E : AT)  (Lp : LPT) (s w y : List UInt8) (ws ts gs : List (List PV)) (g0 : PV) (i n d : Int)   (h0 : Z w = true) : EV5 F fns Z P At E Lp ⟨0, 0⟩ b5_2 { env := [(0, SV.p (PV.ro 1 ws)), (1, SV.p g0), (5, zs s), (6, SV.own 1 ts), (7, zi i), (8, zs w), (18, SV.p (PV.ro 1 ws)), (19, zi n), (20, zi i), (22, zi i), (24, zs w), (26, zb false), (68, uu)], fr := [(17, [])], hp := [], out := [] } = some (Ex.normal, { env := [(0, SV.p (PV.ro 1 ws)), (1, SV.p g0), (5, zs s), (6, SV.own 1 ts), (7, zi i), (8, zs w), (9, zn), (11, SV.p (PV.int IntKind.i64 (E w))), (18, SV.p (PV.ro 1 ws)), (19, zi n), (20, zi i), (22, zi i), (24, zs w), (30, zn), (32, SV.p (PV.int IntKind.i64 (E w))), (68, uu)], fr := [(17, [])], hp := [], out := [] }) := by
  cbv
  rw [h0]
  cbv
theorem u3Of_0 (F : Fns) (fns) (Z : GT) (P : PT) (At E : AT)  (Lp : LPT) (s w y : List UInt8) (ws ts gs : List (List PV)) (g0 : PV) (i n d : Int)   (h0 : Z w = false) : EV5 F fns Z P At E Lp ⟨0, 0⟩ b5_2 { env := [(0, SV.p (PV.ro 1 ws)), (1, SV.p g0), (5, zs s), (6, SV.own 1 ts), (7, zi i), (8, zs w), (18, SV.p (PV.ro 1 ws)), (19, zi n), (20, zi i), (22, zi i), (24, zs w), (26, zb false), (68, uu)], fr := [(17, [])], hp := [], out := [] } = some (Ex.normal, { env := [(0, SV.p (PV.ro 1 ws)), (1, SV.p g0), (5, zs s), (6, SV.own 1 ts), (7, zi i), (8, zs w), (9, SV.own 4 (P w)), (11, SV.p (PV.int IntKind.i64 (E w))), (18, SV.p (PV.ro 1 ws)), (19, zi n), (20, zi i), (22, zi i), (24, zs w), (30, uu), (32, SV.p (PV.int IntKind.i64 (E w))), (68, uu)], fr := [(17, [])], hp := [], out := [] }) := by
  cbv
  rw [h0]
  cbv
theorem u4Ot_0 (F : Fns) (fns) (Z : GT) (P : PT) (At E : AT)  (Lp : LPT) (s w y : List UInt8) (ws ts gs : List (List PV)) (g0 : PV) (i n d : Int) (ls : List (List PV))   (h0 : F Fn.cmp BinOp.neq d 0 = true) : EV5 F fns Z P At E Lp ⟨0, 0⟩ b5_3 { env := [(0, SV.p (PV.ro 1 ws)), (1, SV.p g0), (5, zs s), (6, SV.own 1 ts), (7, zi i), (8, zs w), (9, zn), (11, zi d), (18, SV.p (PV.ro 1 ws)), (19, zi n), (20, zi i), (22, zi i), (24, zs w), (30, zn), (32, zi d), (68, uu)], fr := [(17, [])], hp := [], out := [] } = some (Ex.exit 1, { env := [(0, SV.p (PV.ro 1 ws)), (1, SV.p g0), (5, zs s), (6, SV.own 1 ts), (7, zi i), (8, zs w), (18, SV.p (PV.ro 1 ws)), (19, zi n), (20, zi i), (22, zi i), (24, zs w), (47, zb true), (68, uu)], fr := [(17, [])], hp := [], out := [] }) := by
  cbv
  rw [h0]
  cbv
theorem u4Ot_1 (F : Fns) (fns) (Z : GT) (P : PT) (At E : AT)  (Lp : LPT) (s w y : List UInt8) (ws ts gs : List (List PV)) (g0 : PV) (i n d : Int) (ls : List (List PV))   (h0 : F Fn.cmp BinOp.neq d 0 = false) (h1 : F Fn.cmp BinOp.neq (Int.ofNat 0) 1 = true) : EV5 F fns Z P At E Lp ⟨0, 0⟩ b5_3 { env := [(0, SV.p (PV.ro 1 ws)), (1, SV.p g0), (5, zs s), (6, SV.own 1 ts), (7, zi i), (8, zs w), (9, zn), (11, zi d), (18, SV.p (PV.ro 1 ws)), (19, zi n), (20, zi i), (22, zi i), (24, zs w), (30, zn), (32, zi d), (68, uu)], fr := [(17, [])], hp := [], out := [] } = some (Ex.exit 1, { env := [(0, SV.p (PV.ro 1 ws)), (1, SV.p g0), (5, zs s), (6, SV.own 1 ts), (7, zi i), (8, zs w), (18, SV.p (PV.ro 1 ws)), (19, zi n), (20, zi i), (22, zi i), (24, zs w), (47, zb true), (68, uu)], fr := [(17, [])], hp := [], out := [] }) := by
  cbv
  rw [h0]
  cbv
  rw [h1]
  cbv
theorem u4Of_0 (F : Fns) (fns) (Z : GT) (P : PT) (At E : AT)  (Lp : LPT) (s w y : List UInt8) (ws ts gs : List (List PV)) (g0 : PV) (i n d : Int) (ls : List (List PV))   (h0 : F Fn.cmp BinOp.neq d 0 = true) : EV5 F fns Z P At E Lp ⟨0, 0⟩ b5_3 { env := [(0, SV.p (PV.ro 1 ws)), (1, SV.p g0), (5, zs s), (6, SV.own 1 ts), (7, zi i), (8, zs w), (9, SV.own 4 ls), (11, zi d), (18, SV.p (PV.ro 1 ws)), (19, zi n), (20, zi i), (22, zi i), (24, zs w), (30, uu), (32, zi d), (68, uu)], fr := [(17, [])], hp := [], out := [] } = some (Ex.exit 1, { env := [(0, SV.p (PV.ro 1 ws)), (1, SV.p g0), (5, zs s), (6, SV.own 1 ts), (7, zi i), (8, zs w), (18, SV.p (PV.ro 1 ws)), (19, zi n), (20, zi i), (22, zi i), (24, zs w), (47, zb true), (68, uu)], fr := [(17, [])], hp := [], out := [] }) := by
  cbv
  rw [h0]
  cbv
theorem u4Of_1 (F : Fns) (fns) (Z : GT) (P : PT) (At E : AT)  (Lp : LPT) (s w y : List UInt8) (ws ts gs : List (List PV)) (g0 : PV) (i n d : Int) (ls : List (List PV))   (h0 : F Fn.cmp BinOp.neq d 0 = false) (h1 : F Fn.cmp BinOp.neq (Int.ofNat (F Fn.rlen ls)) 1 = true) : EV5 F fns Z P At E Lp ⟨0, 0⟩ b5_3 { env := [(0, SV.p (PV.ro 1 ws)), (1, SV.p g0), (5, zs s), (6, SV.own 1 ts), (7, zi i), (8, zs w), (9, SV.own 4 ls), (11, zi d), (18, SV.p (PV.ro 1 ws)), (19, zi n), (20, zi i), (22, zi i), (24, zs w), (30, uu), (32, zi d), (68, uu)], fr := [(17, [])], hp := [], out := [] } = some (Ex.exit 1, { env := [(0, SV.p (PV.ro 1 ws)), (1, SV.p g0), (5, zs s), (6, SV.own 1 ts), (7, zi i), (8, zs w), (18, SV.p (PV.ro 1 ws)), (19, zi n), (20, zi i), (22, zi i), (24, zs w), (47, zb true), (68, uu)], fr := [(17, [])], hp := [], out := [] }) := by
  cbv
  rw [h0]
  cbv
  rw [h1]
  cbv
theorem u4Of_2 (F : Fns) (fns) (Z : GT) (P : PT) (At E : AT)  (Lp : LPT) (s w y : List UInt8) (ws ts gs : List (List PV)) (g0 : PV) (i n d : Int) (ls : List (List PV))  (y0_0 : Int) (y0_1 : List UInt8) (y0_2 : Int) (y0_3 : Int) (h0 : F Fn.cmp BinOp.neq d 0 = false) (h1 : F Fn.cmp BinOp.neq (Int.ofNat (F Fn.rlen ls)) 1 = false) (h2 : F Fn.cmp BinOp.leq 0 0 = true) (h3 : F Fn.le (F Fn.rlen ls) (F Fn.toN 0) = false) (h4 : F Fn.rget ls (F Fn.add 0 (F Fn.toN 0)) = some [PV.int IntKind.i64 y0_0, PV.str y0_1, PV.int IntKind.i64 y0_2, PV.int IntKind.i64 y0_3]) (h5 : F Fn.scmp BinOp.neq y0_1 w = true) : EV5 F fns Z P At E Lp ⟨0, 0⟩ b5_3 { env := [(0, SV.p (PV.ro 1 ws)), (1, SV.p g0), (5, zs s), (6, SV.own 1 ts), (7, zi i), (8, zs w), (9, SV.own 4 ls), (11, zi d), (18, SV.p (PV.ro 1 ws)), (19, zi n), (20, zi i), (22, zi i), (24, zs w), (30, uu), (32, zi d), (68, uu)], fr := [(17, [])], hp := [], out := [] } = some (Ex.exit 1, { env := [(0, SV.p (PV.ro 1 ws)), (1, SV.p g0), (5, zs s), (6, SV.own 1 ts), (7, zi i), (8, zs w), (18, SV.p (PV.ro 1 ws)), (19, zi n), (20, zi i), (22, zi i), (24, zs w), (47, zb true), (68, uu)], fr := [(17, [])], hp := [], out := [] }) := by
  cbv
  rw [h0]
  cbv
  rw [h1]
  cbv
  rw [h2]
  cbv
  rw [h3]
  cbv
  rw [h4]
  cbv
  rw [h5]
  cbv
theorem u4Of_3 (F : Fns) (fns) (Z : GT) (P : PT) (At E : AT)  (Lp : LPT) (s w y : List UInt8) (ws ts gs : List (List PV)) (g0 : PV) (i n d : Int) (ls : List (List PV))  (y0_0 : Int) (y0_1 : List UInt8) (y0_2 : Int) (y0_3 : Int) (h0 : F Fn.cmp BinOp.neq d 0 = false) (h1 : F Fn.cmp BinOp.neq (Int.ofNat (F Fn.rlen ls)) 1 = false) (h2 : F Fn.cmp BinOp.leq 0 0 = true) (h3 : F Fn.le (F Fn.rlen ls) (F Fn.toN 0) = false) (h4 : F Fn.rget ls (F Fn.add 0 (F Fn.toN 0)) = some [PV.int IntKind.i64 y0_0, PV.str y0_1, PV.int IntKind.i64 y0_2, PV.int IntKind.i64 y0_3]) (h5 : F Fn.scmp BinOp.neq y0_1 w = false) : EV5 F fns Z P At E Lp ⟨0, 0⟩ b5_3 { env := [(0, SV.p (PV.ro 1 ws)), (1, SV.p g0), (5, zs s), (6, SV.own 1 ts), (7, zi i), (8, zs w), (9, SV.own 4 ls), (11, zi d), (18, SV.p (PV.ro 1 ws)), (19, zi n), (20, zi i), (22, zi i), (24, zs w), (30, uu), (32, zi d), (68, uu)], fr := [(17, [])], hp := [], out := [] } = some (Ex.normal, { env := [(0, SV.p (PV.ro 1 ws)), (1, SV.p g0), (5, zs s), (6, SV.own 1 ts), (7, zi i), (8, zs w), (18, SV.p (PV.ro 1 ws)), (19, zi n), (20, zi i), (22, zi i), (24, zs w), (47, zb false), (68, uu)], fr := [(17, [])], hp := [], out := [] }) := by
  cbv
  rw [h0]
  cbv
  rw [h1]
  cbv
  rw [h2]
  cbv
  rw [h3]
  cbv
  rw [h4]
  cbv
  rw [h5]
  cbv
theorem u5O_0 (F : Fns) (fns) (Z : GT) (P : PT) (At E : AT)  (Lp : LPT) (s w y : List UInt8) (ws ts gs : List (List PV)) (g0 : PV) (i n d : Int)    : EV5 F fns Z P At E Lp ⟨0, 0⟩ b5_4 { env := [(0, SV.p (PV.ro 1 ws)), (1, SV.p g0), (5, zs s), (6, SV.own 1 ts), (7, zi i), (8, zs w), (18, SV.p (PV.ro 1 ws)), (19, zi n), (20, zi i), (22, zi i), (24, zs w), (47, zb false), (68, uu)], fr := [(17, [])], hp := [], out := [] } = some (Ex.normal, { env := [(0, SV.p (PV.ro 1 ws)), (1, SV.p g0), (5, zs s), (6, SV.own 1 ts), (7, zi i), (8, zs w), (12, zi 0), (18, SV.p (PV.ro 1 ws)), (19, zi n), (20, zi i), (22, zi i), (24, zs w), (68, uu)], fr := [(17, [])], hp := [], out := [] }) := by
  cbv
theorem u6On_0 (F : Fns) (fns) (Z : GT) (P : PT) (At E : AT)  (Lp : LPT) (s w y : List UInt8) (ws ts gs : List (List PV)) (g0 : PV) (i n d : Int)   (h0 : F Fn.cmp BinOp.lss i (Int.ofNat 0) = false) : EV5 F fns Z P At E Lp ⟨0, 0⟩ b5_5 { env := [(0, SV.p (PV.ro 1 ws)), (1, zn), (5, zs s), (6, SV.own 1 ts), (7, zi i), (8, zs w), (12, zi 0), (18, SV.p (PV.ro 1 ws)), (19, zi n), (20, zi i), (22, zi i), (24, zs w), (68, uu)], fr := [(17, [])], hp := [], out := [] } = some (Ex.normal, { env := [(0, SV.p (PV.ro 1 ws)), (1, zn), (5, zs s), (6, SV.own 1 ts), (7, zi i), (8, zs w), (12, zi 0), (18, SV.p (PV.ro 1 ws)), (19, zi n), (20, zi i), (22, zi i), (24, zs w), (51, zb false), (68, uu)], fr := [(17, [])], hp := [], out := [] }) := by
  cbv
  rw [h0]
  cbv
theorem u6Or_0 (F : Fns) (fns) (Z : GT) (P : PT) (At E : AT)  (Lp : LPT) (s w y : List UInt8) (ws ts gs : List (List PV)) (g0 : PV) (i n d : Int)   (h0 : F Fn.cmp BinOp.lss i (Int.ofNat (F Fn.rlen gs)) = false) : EV5 F fns Z P At E Lp ⟨0, 0⟩ b5_5 { env := [(0, SV.p (PV.ro 1 ws)), (1, SV.p (PV.ro 1 gs)), (5, zs s), (6, SV.own 1 ts), (7, zi i), (8, zs w), (12, zi 0), (18, SV.p (PV.ro 1 ws)), (19, zi n), (20, zi i), (22, zi i), (24, zs w), (68, uu)], fr := [(17, [])], hp := [], out := [] } = some (Ex.normal, { env := [(0, SV.p (PV.ro 1 ws)), (1, SV.p (PV.ro 1 gs)), (5, zs s), (6, SV.own 1 ts), (7, zi i), (8, zs w), (12, zi 0), (18, SV.p (PV.ro 1 ws)), (19, zi n), (20, zi i), (22, zi i), (24, zs w), (51, zb false), (68, uu)], fr := [(17, [])], hp := [], out := [] }) := by
  cbv
  rw [h0]
  cbv
theorem u6Or_1 (F : Fns) (fns) (Z : GT) (P : PT) (At E : AT)  (Lp : LPT) (s w y : List UInt8) (ws ts gs : List (List PV)) (g0 : PV) (i n d : Int)  (y0_0 : Int) (h0 : F Fn.cmp BinOp.lss i (Int.ofNat (F Fn.rlen gs)) = true) (h1 : F Fn.cmp BinOp.leq 0 i = true) (h2 : F Fn.rget gs (F Fn.toN i) = some [PV.int IntKind.i64 y0_0]) : EV5 F fns Z P At E Lp ⟨0, 0⟩ b5_5 { env := [(0, SV.p (PV.ro 1 ws)), (1, SV.p (PV.ro 1 gs)), (5, zs s), (6, SV.own 1 ts), (7, zi i), (8, zs w), (12, zi 0), (18, SV.p (PV.ro 1 ws)), (19, zi n), (20, zi i), (22, zi i), (24, zs w), (68, uu)], fr := [(17, [])], hp := [], out := [] } = some (Ex.normal, { env := [(0, SV.p (PV.ro 1 ws)), (1, SV.p (PV.ro 1 gs)), (5, zs s), (6, SV.own 1 ts), (8, zs w), (12, SV.p (PV.int IntKind.i64 (F Fn.ar BinOp.and IntKind.i64 y0_0 3))), (18, SV.p (PV.ro 1 ws)), (19, zi n), (20, zi i), (24, zs w), (68, uu)], fr := [(17, [])], hp := [], out := [] }) := by
  cbv
  rw [h0]
  cbv
  rw [h1]
  cbv
  rw [h2]
  cbv
theorem u8O_0 (F : Fns) (fns) (Z : GT) (P : PT) (At E : AT)  (Lp : LPT) (s w y : List UInt8) (ws ts gs : List (List PV)) (g0 : PV) (i n d : Int)   (h0 : F Fn.le (F Fn.add 0 (F Fn.rlen [[PV.str w]])) (F Fn.rlen [[PV.str w]]) = true) (h1 : F Fn.lens 1 (F Fn.rpart [[PV.str w]] 0 (F Fn.rlen [[PV.str w]])) = true) (h2 : F Fn.le (F Fn.add 0 (F Fn.rlen ts)) (F Fn.rlen ts) = true) (h3 : F Fn.afit (F Fn.rlen ts) (F Fn.rpart [[PV.str w]] 0 (F Fn.rlen [[PV.str w]])) 16 = true) : EV5 F fns Z P At E Lp ⟨0, 0⟩ b5_7 { env := [(0, SV.p (PV.ro 1 ws)), (1, SV.p g0), (5, zs s), (6, SV.own 1 ts), (8, zs w), (18, SV.p (PV.ro 1 ws)), (19, zi n), (20, zi i), (24, zs w), (68, uu)], fr := [(17, [])], hp := [], out := [] } = some (Ex.normal, { env := [(0, SV.p (PV.ro 1 ws)), (1, SV.p g0), (5, zs s), (6, SV.own 1 (F Fn.rcat (F Fn.rpart ts 0 (F Fn.rlen ts)) (F Fn.rpart [[PV.str w]] 0 (F Fn.rlen [[PV.str w]])))), (18, SV.p (PV.ro 1 ws)), (19, zi n), (20, zi i), (68, uu)], fr := [(17, [])], hp := [], out := [] }) := by
  cbv
  rw [h0]
  cbv
  rw [h1]
  cbv
  rw [h2]
  cbv
  rw [h3]
  cbv
theorem u9O_0 (F : Fns) (fns) (Z : GT) (P : PT) (At E : AT)  (Lp : LPT) (s w y : List UInt8) (ws ts gs : List (List PV)) (g0 : PV) (i n d : Int)    : EV5 F fns Z P At E Lp ⟨0, 0⟩ a5_3 { env := [(0, SV.p (PV.ro 1 ws)), (1, SV.p g0), (5, zs s), (6, SV.own 1 ts), (18, SV.p (PV.ro 1 ws)), (19, zi n), (20, zi i), (68, uu)], fr := [(17, [])], hp := [], out := [] } = some (Ex.normal, { env := [(0, SV.p (PV.ro 1 ws)), (1, SV.p g0), (5, zs s), (6, SV.own 1 ts), (18, SV.p (PV.ro 1 ws)), (19, zi n), (20, SV.p (PV.int IntKind.i64 (F Fn.ar BinOp.add IntKind.i64 i 1))), (68, uu)], fr := [(17, [])], hp := [], out := [] }) := by
  cbv
theorem u9eO_0 (F : Fns) (fns) (Z : GT) (P : PT) (At E : AT)  (Lp : LPT) (s w y : List UInt8) (ws ts gs : List (List PV)) (g0 : PV) (i n d : Int)    : EV5 F fns Z P At E Lp ⟨0, 0⟩ a5_3 { env := [(0, SV.p (PV.ro 1 ws)), (1, SV.p g0), (5, zs s), (6, SV.own 1 ts), (7, zi i), (8, zs w), (18, SV.p (PV.ro 1 ws)), (19, zi n), (20, zi i), (22, zi i), (24, zs w), (47, zb true), (68, uu)], fr := [(17, [])], hp := [], out := [] } = some (Ex.normal, { env := [(0, SV.p (PV.ro 1 ws)), (1, SV.p g0), (5, zs s), (6, SV.own 1 ts), (18, SV.p (PV.ro 1 ws)), (19, zi n), (20, SV.p (PV.int IntKind.i64 (F Fn.ar BinOp.add IntKind.i64 i 1))), (68, uu)], fr := [(17, [])], hp := [], out := [] }) := by
  cbv
theorem u7Op_0 (F : Fns) (fns) (Z : GT) (P : PT) (At E : AT)  (Lp : LPT) (s w y : List UInt8) (ws ts gs : List (List PV)) (g0 : PV) (i n d : Int)  (y0_0 : List UInt8) (h0 : F Fn.cmp BinOp.leq 0 0 = true) (h1 : F Fn.le (F Fn.rlen [[PV.str [32]], [PV.str [9, 32, 13]], [PV.str [35, 32, 120, 32, 59, 32, 57, 97, 10]], [PV.str [10, 10]]]) (F Fn.toN 0) = false) (h2 : F Fn.rget [[PV.str [32]], [PV.str [9, 32, 13]], [PV.str [35, 32, 120, 32, 59, 32, 57, 97, 10]], [PV.str [10, 10]]] (F Fn.add 0 (F Fn.toN 0)) = some [PV.str y0_0]) (h3 : F Fn.sfit w y0_0 = true) (h4 : F Fn.sfit s (F Fn.scat w y0_0) = true) : EV5 F fns Z P At E Lp ⟨0, 0⟩ b5_6 { env := [(0, SV.p (PV.ro 1 ws)), (1, SV.p g0), (5, zs s), (6, SV.own 1 ts), (7, zi i), (8, zs w), (12, zi 0), (18, SV.p (PV.ro 1 ws)), (19, zi n), (20, zi i), (22, zi i), (24, zs w), (51, zb false), (68, uu)], fr := [(17, [])], hp := [], out := [] } = some (Ex.normal, { env := [(0, SV.p (PV.ro 1 ws)), (1, SV.p g0), (5, SV.p (PV.str (F Fn.scat s (F Fn.scat w y0_0)))), (6, SV.own 1 ts), (8, zs w), (18, SV.p (PV.ro 1 ws)), (19, zi n), (20, zi i), (24, zs w), (68, uu)], fr := [(17, [])], hp := [], out := [] }) := by
  cbv
  rw [h0]
  cbv
  rw [h1]
  cbv
  rw [h2]
  cbv
  rw [h3]
  cbv
  rw [h4]
  cbv
theorem u7Oq_0 (F : Fns) (fns) (Z : GT) (P : PT) (At E : AT)  (Lp : LPT) (s w y : List UInt8) (ws ts gs : List (List PV)) (g0 : PV) (i n d : Int)  (y0_0 : List UInt8) (h0 : F Fn.cmp BinOp.leq 0 d = true) (h1 : F Fn.le (F Fn.rlen [[PV.str [32]], [PV.str [9, 32, 13]], [PV.str [35, 32, 120, 32, 59, 32, 57, 97, 10]], [PV.str [10, 10]]]) (F Fn.toN d) = false) (h2 : F Fn.rget [[PV.str [32]], [PV.str [9, 32, 13]], [PV.str [35, 32, 120, 32, 59, 32, 57, 97, 10]], [PV.str [10, 10]]] (F Fn.add 0 (F Fn.toN d)) = some [PV.str y0_0]) (h3 : F Fn.sfit w y0_0 = true) (h4 : F Fn.sfit s (F Fn.scat w y0_0) = true) : EV5 F fns Z P At E Lp ⟨0, 0⟩ b5_6 { env := [(0, SV.p (PV.ro 1 ws)), (1, SV.p g0), (5, zs s), (6, SV.own 1 ts), (8, zs w), (12, zi d), (18, SV.p (PV.ro 1 ws)), (19, zi n), (20, zi i), (24, zs w), (68, uu)], fr := [(17, [])], hp := [], out := [] } = some (Ex.normal, { env := [(0, SV.p (PV.ro 1 ws)), (1, SV.p g0), (5, SV.p (PV.str (F Fn.scat s (F Fn.scat w y0_0)))), (6, SV.own 1 ts), (8, zs w), (18, SV.p (PV.ro 1 ws)), (19, zi n), (20, zi i), (24, zs w), (68, uu)], fr := [(17, [])], hp := [], out := [] }) := by
  cbv
  rw [h0]
  cbv
  rw [h1]
  cbv
  rw [h2]
  cbv
  rw [h3]
  cbv
  rw [h4]
  cbv
theorem v0N_0 (F : Fns) (fns) (Z : GT) (P : PT) (At E : AT) (ts rs : List (List PV)) (m j : Int)   (h0 : F Fn.cmp BinOp.lss j m = false) : EV5 F fns Z P At E n2 ⟨0, 0⟩ d5b { env := [(6, zn), (13, zn), (68, uu), (73, zn), (85, zn), (86, zi m), (87, zi j)], fr := [(17, [])], hp := [], out := [] } = some (Ex.exit 2, { env := [(6, zn), (13, zn), (68, uu), (73, zn), (85, zn), (86, zi m), (87, zi j), (88, zb false)], fr := [(17, [])], hp := [], out := [] }) := by
  cbv
  rw [h0]
  cbv
theorem v0O_0 (F : Fns) (fns) (Z : GT) (P : PT) (At E : AT) (ts rs : List (List PV)) (m j : Int)   (h0 : F Fn.cmp BinOp.lss j m = false) : EV5 F fns Z P At E n2 ⟨0, 0⟩ d5b { env := [(6, SV.own 1 ts), (13, SV.own 4 rs), (68, uu), (73, uu), (85, SV.al { root := Root.sl 13, off := 0, row := none } 4 0 (F Fn.rlen rs)), (86, zi m), (87, zi j)], fr := [(17, [])], hp := [], out := [] } = some (Ex.exit 2, { env := [(6, SV.own 1 ts), (13, SV.own 4 rs), (68, uu), (73, uu), (85, SV.al { root := Root.sl 13, off := 0, row := none } 4 0 (F Fn.rlen rs)), (86, zi m), (87, zi j), (88, zb false)], fr := [(17, [])], hp := [], out := [] }) := by
  cbv
  rw [h0]
  cbv
theorem v0O_1 (F : Fns) (fns) (Z : GT) (P : PT) (At E : AT) (ts rs : List (List PV)) (m j : Int)  (y0_0 : Int) (y0_1 : List UInt8) (y0_2 : Int) (y0_3 : Int) (y4_0 : List UInt8) (h0 : F Fn.cmp BinOp.lss j m = true) (h1 : F Fn.cmp BinOp.leq 0 j = true) (h2 : F Fn.le (F Fn.rlen rs) (F Fn.toN j) = false) (h3 : F Fn.rget rs (F Fn.add 0 (F Fn.toN j)) = some [PV.int IntKind.i64 y0_0, PV.str y0_1, PV.int IntKind.i64 y0_2, PV.int IntKind.i64 y0_3]) (h4 : F Fn.cmp BinOp.leq 0 j = true) (h5 : F Fn.le (F Fn.rlen ts) (F Fn.toN j) = false) (h6 : F Fn.rget ts (F Fn.add 0 (F Fn.toN j)) = some [PV.str y4_0]) (h7 : F Fn.scmp BinOp.neq y0_1 y4_0 = false) : EV5 F fns Z P At E n2 ⟨0, 0⟩ d5b { env := [(6, SV.own 1 ts), (13, SV.own 4 rs), (68, uu), (73, uu), (85, SV.al { root := Root.sl 13, off := 0, row := none } 4 0 (F Fn.rlen rs)), (86, zi m), (87, zi j)], fr := [(17, [])], hp := [], out := [] } = some (Ex.normal, { env := [(6, SV.own 1 ts), (13, SV.own 4 rs), (68, uu), (73, uu), (85, SV.al { root := Root.sl 13, off := 0, row := none } 4 0 (F Fn.rlen rs)), (86, zi m), (87, SV.p (PV.int IntKind.i64 (F Fn.ar BinOp.add IntKind.i64 j 1)))], fr := [(17, [])], hp := [], out := [] }) := by
  cbv
  rw [h0]
  cbv
  rw [h1]
  cbv
  rw [h2]
  cbv
  rw [h3]
  cbv
  rw [h4]
  cbv
  rw [h5]
  cbv
  rw [h6]
  cbv
  rw [h7]
  cbv
theorem sem5e_0 (F : Fns) (fns) (Z : GT) (P : PT) (At E : AT) (Lp : LPT) (ws ts gs rs : List (List PV)) (g0 : PV) (i j m n d : Int) (s w : List UInt8)   (h0 : Lp d5a { env := [(0, zn), (1, SV.p g0), (5, SV.p (PV.str [])), (6, zn), (18, zn), (19, SV.p (PV.int IntKind.i64 (Int.ofNat 0))), (20, zi 0), (68, uu)], fr := [(17, [])], hp := [], out := [] } = some (Ex.exit 0, { env := [(0, zn), (1, SV.p g0), (5, zs s), (6, zn), (18, zn), (19, zi n), (20, zi i), (21, zb false), (68, uu)], fr := [(17, [])], hp := [], out := [] })) (h1 : Z s = true) (h2 : F Fn.cmp BinOp.neq (E s) 0 = false) (h3 : F Fn.cmp BinOp.neq (Int.ofNat 0) (Int.ofNat 0) = false) (h4 : Lp d5b { env := [(6, zn), (13, zn), (68, uu), (73, zn), (85, zn), (86, SV.p (PV.int IntKind.i64 (Int.ofNat 0))), (87, zi 0)], fr := [(17, [])], hp := [], out := [] } = some (Ex.exit 2, { env := [(6, zn), (13, zn), (68, uu), (73, zn), (85, zn), (86, zi m), (87, zi j), (88, zb false)], fr := [(17, [])], hp := [], out := [] })) : @S.fnS (symA F) (T' fns (look (ps5w Z P At E))) n5 Lp ⟨0, 0⟩ vf5 [.p .nils, .p g0] [] [] = some ((zb true, [], []), []) := by
  cbv
  rw [h0]
  cbv
  rw [h1]
  cbv
  rw [h2]
  cbv
  rw [h3]
  cbv
  rw [h4]
  cbv
theorem sem5xN_0 (F : Fns) (fns) (Z : GT) (P : PT) (At E : AT) (Lp : LPT) (ws ts gs rs : List (List PV)) (g0 : PV) (i j m n d : Int) (s w : List UInt8)   (h0 : Lp d5a { env := [(0, SV.p (PV.ro 1 ws)), (1, SV.p g0), (5, SV.p (PV.str [])), (6, zn), (18, SV.p (PV.ro 1 ws)), (19, SV.p (PV.int IntKind.i64 (Int.ofNat (F Fn.rlen ws)))), (20, zi 0), (68, uu)], fr := [(17, [])], hp := [], out := [] } = some (Ex.exit 0, { env := [(0, SV.p (PV.ro 1 ws)), (1, SV.p g0), (5, zs s), (6, zn), (18, SV.p (PV.ro 1 ws)), (19, zi n), (20, zi i), (21, zb false), (68, uu)], fr := [(17, [])], hp := [], out := [] })) (h1 : Z s = true) (h2 : F Fn.cmp BinOp.neq (E s) 0 = false) (h3 : F Fn.cmp BinOp.neq (Int.ofNat 0) (Int.ofNat 0) = false) (h4 : Lp d5b { env := [(6, zn), (13, zn), (68, uu), (73, zn), (85, zn), (86, SV.p (PV.int IntKind.i64 (Int.ofNat 0))), (87, zi 0)], fr := [(17, [])], hp := [], out := [] } = some (Ex.exit 2, { env := [(6, zn), (13, zn), (68, uu), (73, zn), (85, zn), (86, zi m), (87, zi j), (88, zb false)], fr := [(17, [])], hp := [], out := [] })) : @S.fnS (symA F) (T' fns (look (ps5w Z P At E))) n5 Lp ⟨0, 0⟩ vf5 [.p (.ro 1 ws), .p g0] [] [] = some ((zb true, [], []), []) := by
  cbv
  rw [h0]
  cbv
  rw [h1]
  cbv
  rw [h2]
  cbv
  rw [h3]
  cbv
  rw [h4]
  cbv
theorem sem5xO_0 (F : Fns) (fns) (Z : GT) (P : PT) (At E : AT) (Lp : LPT) (ws ts gs rs : List (List PV)) (g0 : PV) (i j m n d : Int) (s w : List UInt8)   (h0 : Lp d5a { env := [(0, SV.p (PV.ro 1 ws)), (1, SV.p g0), (5, SV.p (PV.str [])), (6, zn), (18, SV.p (PV.ro 1 ws)), (19, SV.p (PV.int IntKind.i64 (Int.ofNat (F Fn.rlen ws)))), (20, zi 0), (68, uu)], fr := [(17, [])], hp := [], out := [] } = some (Ex.exit 0, { env := [(0, SV.p (PV.ro 1 ws)), (1, SV.p g0), (5, zs s), (6, SV.own 1 ts), (18, SV.p (PV.ro 1 ws)), (19, zi n), (20, zi i), (21, zb false), (68, uu)], fr := [(17, [])], hp := [], out := [] })) (h1 : Z s = false) (h2 : F Fn.cmp BinOp.neq (E s) 0 = false) (h3 : F Fn.cmp BinOp.neq (Int.ofNat (F Fn.rlen (P s))) (Int.ofNat (F Fn.rlen ts)) = false) (h4 : Lp d5b { env := [(6, SV.own 1 ts), (13, SV.own 4 (P s)), (68, uu), (73, uu), (85, SV.al { root := Root.sl 13, off := 0, row := none } 4 0 (F Fn.rlen (P s))), (86, SV.p (PV.int IntKind.i64 (Int.ofNat (F Fn.rlen (P s))))), (87, zi 0)], fr := [(17, [])], hp := [], out := [] } = some (Ex.exit 2, { env := [(6, SV.own 1 ts), (13, SV.own 4 rs), (68, uu), (73, uu), (85, SV.al { root := Root.sl 13, off := 0, row := none } 4 0 (F Fn.rlen rs)), (86, zi m), (87, zi j), (88, zb false)], fr := [(17, [])], hp := [], out := [] })) : @S.fnS (symA F) (T' fns (look (ps5w Z P At E))) n5 Lp ⟨0, 0⟩ vf5 [.p (.ro 1 ws), .p g0] [] [] = some ((zb true, [], []), []) := by
  cbv
  rw [h0]
  cbv
  rw [h1]
  cbv
  rw [h2]
  cbv
  rw [h3]
  cbv
  rw [h4]
  cbv
theorem sem5yN_0 (F : Fns) (fns) (Z : GT) (P : PT) (At E : AT) (Lp : LPT) (ws ts gs rs : List (List PV)) (g0 : PV) (i j m n d : Int) (s w : List UInt8)   (h0 : Lp d5a { env := [(0, SV.p (PV.ro 1 ws)), (1, SV.p g0), (5, SV.p (PV.str [])), (6, zn), (18, SV.p (PV.ro 1 ws)), (19, SV.p (PV.int IntKind.i64 (Int.ofNat (F Fn.rlen ws)))), (20, zi 0), (68, uu)], fr := [(17, [])], hp := [], out := [] } = some (Ex.exit 0, { env := [(0, SV.p (PV.ro 1 ws)), (1, SV.p g0), (5, zs s), (6, zn), (7, zi i), (8, zs w), (18, SV.p (PV.ro 1 ws)), (19, zi n), (20, zi i), (22, zi i), (24, zs w), (26, zb true), (68, uu)], fr := [(17, [])], hp := [], out := [] })) (h1 : Z s = true) (h2 : F Fn.cmp BinOp.neq (E s) 0 = false) (h3 : F Fn.cmp BinOp.neq (Int.ofNat 0) (Int.ofNat 0) = false) (h4 : Lp d5b { env := [(6, zn), (13, zn), (68, uu), (73, zn), (85, zn), (86, SV.p (PV.int IntKind.i64 (Int.ofNat 0))), (87, zi 0)], fr := [(17, [])], hp := [], out := [] } = some (Ex.exit 2, { env := [(6, zn), (13, zn), (68, uu), (73, zn), (85, zn), (86, zi m), (87, zi j), (88, zb false)], fr := [(17, [])], hp := [], out := [] })) : @S.fnS (symA F) (T' fns (look (ps5w Z P At E))) n5 Lp ⟨0, 0⟩ vf5 [.p (.ro 1 ws), .p g0] [] [] = some ((zb true, [], []), []) := by
  cbv
  rw [h0]
  cbv
  rw [h1]
  cbv
  rw [h2]
  cbv
  rw [h3]
  cbv
  rw [h4]
  cbv
theorem sem5yO_0 (F : Fns) (fns) (Z : GT) (P : PT) (At E : AT) (Lp : LPT) (ws ts gs rs : List (List PV)) (g0 : PV) (i j m n d : Int) (s w : List UInt8)   (h0 : Lp d5a { env := [(0, SV.p (PV.ro 1 ws)), (1, SV.p g0), (5, SV.p (PV.str [])), (6, zn), (18, SV.p (PV.ro 1 ws)), (19, SV.p (PV.int IntKind.i64 (Int.ofNat (F Fn.rlen ws)))), (20, zi 0), (68, uu)], fr := [(17, [])], hp := [], out := [] } = some (Ex.exit 0, { env := [(0, SV.p (PV.ro 1 ws)), (1, SV.p g0), (5, zs s), (6, SV.own 1 ts), (7, zi i), (8, zs w), (18, SV.p (PV.ro 1 ws)), (19, zi n), (20, zi i), (22, zi i), (24, zs w), (26, zb true), (68, uu)], fr := [(17, [])], hp := [], out := [] })) (h1 : Z s = false) (h2 : F Fn.cmp BinOp.neq (E s) 0 = false) (h3 : F Fn.cmp BinOp.neq (Int.ofNat (F Fn.rlen (P s))) (Int.ofNat (F Fn.rlen ts)) = false) (h4 : Lp d5b { env := [(6, SV.own 1 ts), (13, SV.own 4 (P s)), (68, uu), (73, uu), (85, SV.al { root := Root.sl 13, off := 0, row := none } 4 0 (F Fn.rlen (P s))), (86, SV.p (PV.int IntKind.i64 (Int.ofNat (F Fn.rlen (P s))))), (87, zi 0)], fr := [(17, [])], hp := [], out := [] } = some (Ex.exit 2, { env := [(6, SV.own 1 ts), (13, SV.own 4 rs), (68, uu), (73, uu), (85, SV.al { root := Root.sl 13, off := 0, row := none } 4 0 (F Fn.rlen rs)), (86, zi m), (87, zi j), (88, zb false)], fr := [(17, [])], hp := [], out := [] })) : @S.fnS (symA F) (T' fns (look (ps5w Z P At E))) n5 Lp ⟨0, 0⟩ vf5 [.p (.ro 1 ws), .p g0] [] [] = some ((zb true, [], []), []) := by
  cbv
  rw [h0]
  cbv
  rw [h1]
  cbv
  rw [h2]
  cbv
  rw [h3]
  cbv
  rw [h4]
  cbv
theorem z0_0 (F : Fns) (fns) (Z : GT) (P : PT) (At E : AT) (s w y : List UInt8) (ws ts gs : List (List PV)) (g0 : PV) (i n d : Int)   (h0 : F Fn.cmp BinOp.lss i n = false) : EV5 F fns Z P At E n2 ⟨0, 0⟩ d5a { env := [(0, zn), (1, SV.p g0), (5, zs s), (6, zn), (18, zn), (19, zi n), (20, zi i), (68, uu)], fr := [(17, [])], hp := [], out := [] } = some (Ex.exit 0, { env := [(0, zn), (1, SV.p g0), (5, zs s), (6, zn), (18, zn), (19, zi n), (20, zi i), (21, zb false), (68, uu)], fr := [(17, [])], hp := [], out := [] }) := by
  cbv
  rw [h0]
  cbv
end Go.Proofs.Ytkkainkhjimcmaa.L
