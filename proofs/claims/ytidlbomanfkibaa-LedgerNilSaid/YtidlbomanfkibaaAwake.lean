import Derived.Test.YtidlbomanfkibaaVG
import Derived.Test.YtidlbomanfkibaaFuns
/-
A closed run, call by call. Printed by program.
-/
namespace Go.Proofs.Ytidlbomanfkibaa.L
open Go Go.VM
set_option linter.unusedVariables false
set_option maxRecDepth 100000
set_option maxHeartbeats 4000000
def aw_ps0 : List (Nat × Prim) := []
theorem aw_ok0 : PrimOk Try.prog (T aw_ps0) := prims_nil
def aw_a0 : List SV := [(.pagg [(.int Go.IntKind.u64 1), (.int Go.IntKind.u64 2), (.int Go.IntKind.u32 3), (.int Go.IntKind.u32 4), (.int Go.IntKind.i64 6), (.int Go.IntKind.i64 5), (.int Go.IntKind.i64 80)])]
def aw_v1 : SV := (.pagg [(.int Go.IntKind.u64 2), (.int Go.IntKind.u64 1), (.int Go.IntKind.u32 4), (.int Go.IntKind.u32 3), (.int Go.IntKind.i64 6), (.int Go.IntKind.i64 80), (.int Go.IntKind.i64 5)])
def aw_e0 : Rec := ⟨⟨0, 0⟩, 16, aw_a0, [], [], (aw_v1, [], [])⟩
theorem aw_c0 : aw_e0.ok (T aw_ps0) := Rec.run (l := []) trivial 64 (vf := vf16) rfl (by kernel_rfl) rfl
def aw_q16 : List Rec := [aw_e0]
theorem aw_p16 : QPrimOk Try.prog 16 (qL aw_q16) := pureQ aw_ok0 (qL_ok (T := T aw_ps0) (f := 16) (l := aw_q16) ⟨⟨rfl, rfl, rfl, rfl, rfl, rfl, aw_c0⟩, trivial⟩)
def aw_ps1 : List (Nat × Prim) := (16, .q (qL aw_q16)) :: aw_ps0
theorem aw_ok1 : PrimOk Try.prog (T aw_ps1) := prims_q aw_p16 aw_ok0
def aw_a2 : List SV := [(.p (.ro 3 [[(.int Go.IntKind.i64 1), (.int Go.IntKind.i64 1), (.int Go.IntKind.i64 2)]]))]
def aw_v3 : SV := (.own 3 [[(.int Go.IntKind.i64 1), (.int Go.IntKind.i64 1), (.int Go.IntKind.i64 2)]])
def aw_e1 : Rec := ⟨⟨0, 0⟩, 49, aw_a2, [], [], (aw_v3, [], [])⟩
theorem aw_c1 : aw_e1.ok (T aw_ps1) := Rec.run (l := []) trivial 64 (vf := vf49) rfl (by kernel_rfl) rfl
def aw_q49 : List Rec := [aw_e1]
theorem aw_p49 : QPrimOk Try.prog 49 (qL aw_q49) := pureQ aw_ok1 (qL_ok (T := T aw_ps1) (f := 49) (l := aw_q49) ⟨⟨rfl, rfl, rfl, rfl, rfl, rfl, aw_c1⟩, trivial⟩)
def aw_ps2 : List (Nat × Prim) := (49, .q (qL aw_q49)) :: aw_ps1
theorem aw_ok2 : PrimOk Try.prog (T aw_ps2) := prims_q aw_p49 aw_ok1
def aw_a4 : List SV := [(.pagg [(.int Go.IntKind.u32 1), (.int Go.IntKind.u32 1), (.int Go.IntKind.u64 1), (.int Go.IntKind.u64 2), (.int Go.IntKind.u32 3), (.int Go.IntKind.u32 4), (.int Go.IntKind.i64 6), (.int Go.IntKind.i64 5), (.int Go.IntKind.i64 80), (.int Go.IntKind.i64 0), (.int Go.IntKind.i64 0), (.int Go.IntKind.i64 0), (.int Go.IntKind.i64 0), (.str []), (.str []), (.str []), (.str []), (.int Go.IntKind.i64 3), (.int Go.IntKind.i64 0), (.ro 3 [[(.int Go.IntKind.i64 1), (.int Go.IntKind.i64 1), (.int Go.IntKind.i64 2)]])])]
def aw_v5 : SV := (.pagg [(.int Go.IntKind.u32 1), (.int Go.IntKind.u32 1), (.int Go.IntKind.u64 1), (.int Go.IntKind.u64 2), (.int Go.IntKind.u32 3), (.int Go.IntKind.u32 4), (.int Go.IntKind.i64 6), (.int Go.IntKind.i64 5), (.int Go.IntKind.i64 80), (.int Go.IntKind.i64 0), (.int Go.IntKind.i64 0), (.int Go.IntKind.i64 0), (.int Go.IntKind.i64 0), (.str []), (.str []), (.str []), (.str []), (.int Go.IntKind.i64 3), (.int Go.IntKind.i64 0), (.ro 3 [[(.int Go.IntKind.i64 1), (.int Go.IntKind.i64 1), (.int Go.IntKind.i64 2)]])])
def aw_e2 : Rec := ⟨⟨0, 0⟩, 36, aw_a4, [], [], (aw_v5, [], [])⟩
theorem aw_c2 : aw_e2.ok (T aw_ps2) := Rec.run (l := []) trivial 64 (vf := vf36) rfl (by kernel_rfl) rfl
def aw_q36 : List Rec := [aw_e2]
theorem aw_p36 : QPrimOk Try.prog 36 (qL aw_q36) := pureQ aw_ok2 (qL_ok (T := T aw_ps2) (f := 36) (l := aw_q36) ⟨⟨rfl, rfl, rfl, rfl, rfl, rfl, aw_c2⟩, trivial⟩)
def aw_ps3 : List (Nat × Prim) := (36, .q (qL aw_q36)) :: aw_ps2
theorem aw_ok3 : PrimOk Try.prog (T aw_ps3) := prims_q aw_p36 aw_ok2
def aw_v6 : SV := (.pagg [(.int Go.IntKind.u64 1), (.int Go.IntKind.u64 2), (.int Go.IntKind.u32 3), (.int Go.IntKind.u32 4), (.int Go.IntKind.i64 6), (.int Go.IntKind.i64 5), (.int Go.IntKind.i64 80)])
def aw_e3 : Rec := ⟨⟨0, 0⟩, 37, [], [], [], (aw_v6, [], [])⟩
theorem aw_c3 : aw_e3.ok (T aw_ps3) := Rec.run (l := []) trivial 64 (vf := vf37) rfl (by kernel_rfl) rfl
def aw_q37 : List Rec := [aw_e3]
theorem aw_p37 : QPrimOk Try.prog 37 (qL aw_q37) := pureQ aw_ok3 (qL_ok (T := T aw_ps3) (f := 37) (l := aw_q37) ⟨⟨rfl, rfl, rfl, rfl, rfl, rfl, aw_c3⟩, trivial⟩)
def aw_ps4 : List (Nat × Prim) := (37, .q (qL aw_q37)) :: aw_ps3
theorem aw_ok4 : PrimOk Try.prog (T aw_ps4) := prims_q aw_p37 aw_ok3
def aw_a7 : List SV := [(.pagg [(.int Go.IntKind.u64 2), (.int Go.IntKind.u64 1), (.int Go.IntKind.u32 4), (.int Go.IntKind.u32 3), (.int Go.IntKind.i64 6), (.int Go.IntKind.i64 80), (.int Go.IntKind.i64 5)])]
def aw_e4 : Rec := ⟨⟨0, 0⟩, 38, aw_a7, [], [], (aw_v6, [], [])⟩
theorem aw_c4 : aw_e4.ok (T aw_ps4) := Rec.run (l := []) trivial 64 (vf := vf38) rfl (by kernel_rfl) rfl
def aw_q38 : List Rec := [aw_e4]
theorem aw_p38 : QPrimOk Try.prog 38 (qL aw_q38) := pureQ aw_ok4 (qL_ok (T := T aw_ps4) (f := 38) (l := aw_q38) ⟨⟨rfl, rfl, rfl, rfl, rfl, rfl, aw_c4⟩, trivial⟩)
def aw_ps5 : List (Nat × Prim) := (38, .q (qL aw_q38)) :: aw_ps4
theorem aw_ok5 : PrimOk Try.prog (T aw_ps5) := prims_q aw_p38 aw_ok4
def aw_e5 : Rec := ⟨⟨0, 0⟩, 42, aw_a0, [], [], ((.p (.bool true)), [], [])⟩
theorem aw_c5 : aw_e5.ok (T aw_ps5) := Rec.run (l := []) trivial 64 (vf := vf42) rfl (by kernel_rfl) rfl
def aw_q42 : List Rec := [aw_e5]
theorem aw_p42 : QPrimOk Try.prog 42 (qL aw_q42) := pureQ aw_ok5 (qL_ok (T := T aw_ps5) (f := 42) (l := aw_q42) ⟨⟨rfl, rfl, rfl, rfl, rfl, rfl, aw_c5⟩, trivial⟩)
def aw_ps6 : List (Nat × Prim) := (42, .q (qL aw_q42)) :: aw_ps5
theorem aw_ok6 : PrimOk Try.prog (T aw_ps6) := prims_q aw_p42 aw_ok5
def aw_a8 : List SV := [(.p (.int Go.IntKind.u32 1)), (.pagg [(.int Go.IntKind.u32 1), (.int Go.IntKind.u32 1), (.int Go.IntKind.u64 1), (.int Go.IntKind.u64 2), (.int Go.IntKind.u32 3), (.int Go.IntKind.u32 4), (.int Go.IntKind.i64 6), (.int Go.IntKind.i64 5), (.int Go.IntKind.i64 80), (.int Go.IntKind.i64 0), (.int Go.IntKind.i64 0), (.int Go.IntKind.i64 0), (.int Go.IntKind.i64 0), (.str []), (.str []), (.str []), (.str []), (.int Go.IntKind.i64 3), (.int Go.IntKind.i64 0), (.ro 3 [[(.int Go.IntKind.i64 1), (.int Go.IntKind.i64 1), (.int Go.IntKind.i64 2)]])])]
def aw_h9 : List SV := [(.p (.int Go.IntKind.u32 1)), (.p (.int Go.IntKind.u32 1)), (.p (.int Go.IntKind.u64 1)), (.p (.int Go.IntKind.u64 2)), (.p (.int Go.IntKind.u32 3)), (.p (.int Go.IntKind.u32 4)), (.p (.int Go.IntKind.i64 6)), (.p (.int Go.IntKind.i64 5)), (.p (.int Go.IntKind.i64 80)), (.p (.int Go.IntKind.i64 0)), (.p (.int Go.IntKind.i64 0)), (.p (.int Go.IntKind.i64 0)), (.p (.int Go.IntKind.i64 0)), (.p (.str [])), (.p (.str [])), (.p (.str [])), (.p (.str [])), (.p (.int Go.IntKind.i64 3)), (.p (.int Go.IntKind.i64 0)), (.p (.ro 3 [[(.int Go.IntKind.i64 1), (.int Go.IntKind.i64 1), (.int Go.IntKind.i64 2)]]))]
def aw_e6 : Rec := ⟨⟨0, 0⟩, 48, aw_a8, [], [], ((.p (.bool true)), [aw_h9], [])⟩
theorem aw_c6 : aw_e6.ok (T aw_ps6) := Rec.run (l := []) trivial 64 (vf := vf48) rfl (by kernel_rfl) rfl
def aw_q48 : List Rec := [aw_e6]
theorem aw_p48 : QPrimOk Try.prog 48 (qL aw_q48) := pureQ aw_ok6 (qL_ok (T := T aw_ps6) (f := 48) (l := aw_q48) ⟨⟨rfl, rfl, rfl, rfl, rfl, rfl, aw_c6⟩, trivial⟩)
def aw_ps7 : List (Nat × Prim) := (48, .q (qL aw_q48)) :: aw_ps6
theorem aw_ok7 : PrimOk Try.prog (T aw_ps7) := prims_q aw_p48 aw_ok6
def aw_h10 : List SV := [(.p .nils), (.p (.int Go.IntKind.i64 4))]
def aw_e7 : Rec := ⟨⟨0, 0⟩, 30, [(.p (.int Go.IntKind.i64 4))], [], [[(2, []), (4, [])], []], ((.ptr ⟨(.hp 0), 0, none⟩), [aw_h10], [[(2, []), (4, [])], []])⟩
theorem aw_c7 : aw_e7.ok (T aw_ps7) := Rec.run (l := []) trivial 64 (vf := vf30) rfl (by kernel_rfl) rfl
def aw_h11 : List SV := [(.p (.int Go.IntKind.u32 0)), (.p (.int Go.IntKind.u32 0)), (.ptr ⟨(.hp 0), 0, none⟩)]
def aw_e8 : Rec := ⟨⟨0, 0⟩, 8, [(.p (.int Go.IntKind.i64 4))], [], [[(2, []), (4, [])]], ((.ptr ⟨(.hp 1), 0, none⟩), [aw_h10, aw_h11], [[(2, []), (4, [])]])⟩
theorem aw_c8 : aw_e8.ok (T aw_ps7) := Rec.run (l := [aw_e7]) ⟨aw_c7, trivial⟩ 64 (vf := vf8) rfl (by kernel_rfl) rfl
def aw_h12 : List SV := [(.p (.int Go.IntKind.u32 1)), (.p (.int Go.IntKind.u32 0)), (.ptr ⟨(.hp 0), 0, none⟩)]
def aw_e9 : Rec := ⟨⟨2, 3⟩, 53, [(.ptr ⟨(.hp 0), 0, none⟩)], [aw_h10, aw_h12], [[(2, []), (4, [])], [], [(8, [])]], ((.p (.int Go.IntKind.i64 0)), [aw_h10, aw_h12], [[(2, []), (4, [])], [], [(8, [])]])⟩
theorem aw_c9 : aw_e9.ok (T aw_ps7) := Rec.run (l := []) trivial 64 (vf := vf53) rfl (by kernel_rfl) rfl
def aw_a13 : List SV := [(.ptr ⟨(.hp 0), 0, none⟩), (.fn 48 [])]
def aw_e10 : Rec := ⟨⟨0, 0⟩, 47, aw_a13, [aw_h10, aw_h12], [[(2, []), (4, [])], []], ((.p .nils), [aw_h10, aw_h12], [[(2, []), (4, [])], []])⟩
theorem aw_c10 : aw_e10.ok (T aw_ps7) := Rec.run (l := [aw_e9]) ⟨aw_c9, trivial⟩ 64 (vf := vf47) rfl (by kernel_rfl) rfl
def aw_a14 : List SV := [(.ptr ⟨(.hp 1), 0, none⟩), (.p (.int Go.IntKind.u32 1))]
def aw_e11 : Rec := ⟨⟨0, 0⟩, 23, aw_a14, [aw_h10, aw_h11], [[(2, []), (4, [])]], ((.p .nils), [aw_h10, aw_h12], [[(2, []), (4, [])]])⟩
theorem aw_c11 : aw_e11.ok (T aw_ps7) := Rec.run (l := [aw_e10]) ⟨aw_c10, trivial⟩ 64 (vf := vf23) rfl (by kernel_rfl) rfl
def aw_o15 : List (Nat × List SV) := [(3, [(.p (.int Go.IntKind.u32 0)), (.p (.int Go.IntKind.u32 1)), (.p (.int Go.IntKind.u64 1)), (.p (.int Go.IntKind.u64 2)), (.p (.int Go.IntKind.u32 3)), (.p (.int Go.IntKind.u32 4)), (.p (.int Go.IntKind.i64 6)), (.p (.int Go.IntKind.i64 5)), (.p (.int Go.IntKind.i64 80)), (.p (.int Go.IntKind.i64 0)), (.p (.int Go.IntKind.i64 0)), (.p (.int Go.IntKind.i64 0)), (.p (.int Go.IntKind.i64 0)), (.p (.str [])), (.p (.str [])), (.p (.str [])), (.p (.str [])), (.p (.int Go.IntKind.i64 3)), (.p (.int Go.IntKind.i64 0)), (.p (.ro 3 [[(.int Go.IntKind.i64 1), (.int Go.IntKind.i64 1), (.int Go.IntKind.i64 2)]]))]), (4, [(.p (.int Go.IntKind.u32 0)), (.p (.int Go.IntKind.u32 0)), (.p (.int Go.IntKind.u64 0)), (.p (.int Go.IntKind.u64 0)), (.p (.int Go.IntKind.u32 0)), (.p (.int Go.IntKind.u32 0)), (.p (.int Go.IntKind.i64 0)), (.p (.int Go.IntKind.i64 0)), (.p (.int Go.IntKind.i64 0)), (.p (.int Go.IntKind.i64 0)), (.p (.int Go.IntKind.i64 0)), (.p (.int Go.IntKind.i64 0)), (.p (.int Go.IntKind.i64 0)), (.p (.str [])), (.p (.str [])), (.p (.str [])), (.p (.str [])), (.p (.int Go.IntKind.i64 0)), (.p (.int Go.IntKind.i64 0)), (.p .nils)]), (6, [])]
def aw_o16 : List (Nat × List SV) := [(3, [(.p (.int Go.IntKind.u64 1)), (.p (.int Go.IntKind.u64 2)), (.p (.int Go.IntKind.u32 3)), (.p (.int Go.IntKind.u32 4)), (.p (.int Go.IntKind.i64 6)), (.p (.int Go.IntKind.i64 5)), (.p (.int Go.IntKind.i64 80))]), (4, [(.p (.int Go.IntKind.u32 0)), (.p (.int Go.IntKind.u32 0)), (.p (.int Go.IntKind.u64 0)), (.p (.int Go.IntKind.u64 0)), (.p (.int Go.IntKind.u32 0)), (.p (.int Go.IntKind.u32 0)), (.p (.int Go.IntKind.i64 0)), (.p (.int Go.IntKind.i64 0)), (.p (.int Go.IntKind.i64 0)), (.p (.int Go.IntKind.i64 0)), (.p (.int Go.IntKind.i64 0)), (.p (.int Go.IntKind.i64 0)), (.p (.int Go.IntKind.i64 0)), (.p (.str [])), (.p (.str [])), (.p (.str [])), (.p (.str [])), (.p (.int Go.IntKind.i64 0)), (.p (.int Go.IntKind.i64 0)), (.p .nils)])]
def aw_e12 : Rec := ⟨⟨2, 5⟩, 53, [(.ptr ⟨(.hp 0), 0, none⟩)], [aw_h10, aw_h12], [[(2, []), (4, [])], aw_o15, aw_o16, [(5, [])], []], ((.p (.int Go.IntKind.i64 0)), [aw_h10, aw_h12], [[(2, []), (4, [])], aw_o15, aw_o16, [(5, [])], []])⟩
theorem aw_c12 : aw_e12.ok (T aw_ps7) := Rec.run (l := []) trivial 64 (vf := vf53) rfl (by kernel_rfl) rfl
def aw_e13 : Rec := ⟨⟨2, 4⟩, 35, [(.ptr ⟨(.hp 0), 0, none⟩)], [aw_h10, aw_h12], [[(2, []), (4, [])], aw_o15, aw_o16, [(5, [])]], ((.p .nils), [aw_h10, aw_h12], [[(2, []), (4, [])], aw_o15, aw_o16, [(5, [])]])⟩
theorem aw_c13 : aw_e13.ok (T aw_ps7) := Rec.run (l := [aw_e12]) ⟨aw_c12, trivial⟩ 64 (vf := vf35) rfl (by kernel_rfl) rfl
def aw_e14 : Rec := ⟨⟨2, 3⟩, 11, [(.ptr ⟨(.hp 1), 0, none⟩)], [aw_h10, aw_h12], [[(2, []), (4, [])], aw_o15, aw_o16], ((.p .nils), [aw_h10, aw_h12], [[(2, []), (4, [])], aw_o15, aw_o16])⟩
theorem aw_c14 : aw_e14.ok (T aw_ps7) := Rec.run (l := [aw_e13]) ⟨aw_c13, trivial⟩ 64 (vf := vf11) rfl (by kernel_rfl) rfl
def aw_a17 : List SV := [(.p .nils), (.fn 45 [(.ptr ⟨(.st 2 3), 0, none⟩)])]
def aw_e15 : Rec := ⟨⟨2, 3⟩, 44, aw_a17, [aw_h10, aw_h12], [[(2, []), (4, [])], aw_o15, aw_o16], ((.p (.int Go.IntKind.i64 (-1))), [aw_h10, aw_h12], [[(2, []), (4, [])], aw_o15, aw_o16])⟩
theorem aw_c15 : aw_e15.ok (T aw_ps7) := Rec.run (l := []) trivial 64 (vf := vf44) rfl (by kernel_rfl) rfl
def aw_a18 : List SV := [(.ptr ⟨(.hp 1), 0, none⟩), (.pagg [(.int Go.IntKind.u64 1), (.int Go.IntKind.u64 2), (.int Go.IntKind.u32 3), (.int Go.IntKind.u32 4), (.int Go.IntKind.i64 6), (.int Go.IntKind.i64 5), (.int Go.IntKind.i64 80)])]
def aw_v19 : SV := (.tup [(.pagg [(.int Go.IntKind.u32 0), (.int Go.IntKind.u32 0), (.int Go.IntKind.u64 0), (.int Go.IntKind.u64 0), (.int Go.IntKind.u32 0), (.int Go.IntKind.u32 0), (.int Go.IntKind.i64 0), (.int Go.IntKind.i64 0), (.int Go.IntKind.i64 0), (.int Go.IntKind.i64 0), (.int Go.IntKind.i64 0), (.int Go.IntKind.i64 0), (.int Go.IntKind.i64 0), (.str []), (.str []), (.str []), (.str []), (.int Go.IntKind.i64 0), (.int Go.IntKind.i64 0), .nils]), (.p (.bool false))])
def aw_e16 : Rec := ⟨⟨2, 2⟩, 21, aw_a18, [aw_h10, aw_h12], [[(2, []), (4, [])], aw_o15], (aw_v19, [aw_h10, aw_h12], [[(2, []), (4, [])], aw_o15])⟩
theorem aw_c16 : aw_e16.ok (T aw_ps7) := Rec.run (l := [aw_e14, aw_e15]) ⟨aw_c14, ⟨aw_c15, trivial⟩⟩ 64 (vf := vf21) rfl (by kernel_rfl) rfl
def aw_a20 : List SV := [(.ptr ⟨(.hp 0), 0, none⟩), (.p (.int Go.IntKind.u32 1))]
def aw_o21 : List (Nat × List SV) := [(3, [(.p (.int Go.IntKind.u32 1)), (.p (.int Go.IntKind.u32 1)), (.p (.int Go.IntKind.u64 1)), (.p (.int Go.IntKind.u64 2)), (.p (.int Go.IntKind.u32 3)), (.p (.int Go.IntKind.u32 4)), (.p (.int Go.IntKind.i64 6)), (.p (.int Go.IntKind.i64 5)), (.p (.int Go.IntKind.i64 80)), (.p (.int Go.IntKind.i64 0)), (.p (.int Go.IntKind.i64 0)), (.p (.int Go.IntKind.i64 0)), (.p (.int Go.IntKind.i64 0)), (.p (.str [])), (.p (.str [])), (.p (.str [])), (.p (.str [])), (.p (.int Go.IntKind.i64 3)), (.p (.int Go.IntKind.i64 0)), (.p (.ro 3 [[(.int Go.IntKind.i64 1), (.int Go.IntKind.i64 1), (.int Go.IntKind.i64 2)]]))]), (4, [(.p (.int Go.IntKind.u32 0)), (.p (.int Go.IntKind.u32 0)), (.p (.int Go.IntKind.u64 0)), (.p (.int Go.IntKind.u64 0)), (.p (.int Go.IntKind.u32 0)), (.p (.int Go.IntKind.u32 0)), (.p (.int Go.IntKind.i64 0)), (.p (.int Go.IntKind.i64 0)), (.p (.int Go.IntKind.i64 0)), (.p (.int Go.IntKind.i64 0)), (.p (.int Go.IntKind.i64 0)), (.p (.int Go.IntKind.i64 0)), (.p (.int Go.IntKind.i64 0)), (.p (.str [])), (.p (.str [])), (.p (.str [])), (.p (.str [])), (.p (.int Go.IntKind.i64 0)), (.p (.int Go.IntKind.i64 0)), (.p .nils)]), (6, [])]
def aw_o22 : List (Nat × List SV) := [(5, [(.p (.int Go.IntKind.u32 1)), (.p (.int Go.IntKind.u32 1)), (.p (.int Go.IntKind.u64 1)), (.p (.int Go.IntKind.u64 2)), (.p (.int Go.IntKind.u32 3)), (.p (.int Go.IntKind.u32 4)), (.p (.int Go.IntKind.i64 6)), (.p (.int Go.IntKind.i64 5)), (.p (.int Go.IntKind.i64 80)), (.p (.int Go.IntKind.i64 0)), (.p (.int Go.IntKind.i64 0)), (.p (.int Go.IntKind.i64 0)), (.p (.int Go.IntKind.i64 0)), (.p (.str [])), (.p (.str [])), (.p (.str [])), (.p (.str [])), (.p (.int Go.IntKind.i64 3)), (.p (.int Go.IntKind.i64 0)), (.p (.ro 3 [[(.int Go.IntKind.i64 1), (.int Go.IntKind.i64 1), (.int Go.IntKind.i64 2)]]))])]
def aw_v23 : SV := (.tup [(.p (.int Go.IntKind.i64 0)), (.p (.bool false))])
def aw_e17 : Rec := ⟨⟨2, 3⟩, 54, aw_a20, [aw_h10, aw_h12], [[(2, []), (4, [])], aw_o21, aw_o22], (aw_v23, [aw_h10, aw_h12], [[(2, []), (4, [])], aw_o21, aw_o22])⟩
theorem aw_c17 : aw_e17.ok (T aw_ps7) := Rec.run (l := []) trivial 64 (vf := vf54) rfl (by kernel_rfl) rfl
def aw_a24 : List SV := [(.p .nils), (.p (.int Go.IntKind.i64 0)), (.lent 21 [[(.int Go.IntKind.u32 1), (.int Go.IntKind.u32 1), (.int Go.IntKind.u32 1), (.int Go.IntKind.u64 1), (.int Go.IntKind.u64 2), (.int Go.IntKind.u32 3), (.int Go.IntKind.u32 4), (.int Go.IntKind.i64 6), (.int Go.IntKind.i64 5), (.int Go.IntKind.i64 80), (.int Go.IntKind.i64 0), (.int Go.IntKind.i64 0), (.int Go.IntKind.i64 0), (.int Go.IntKind.i64 0), (.str []), (.str []), (.str []), (.str []), (.int Go.IntKind.i64 3), (.int Go.IntKind.i64 0), (.ro 3 [[(.int Go.IntKind.i64 1), (.int Go.IntKind.i64 1), (.int Go.IntKind.i64 2)]])]])]
def aw_v25 : SV := (.own 21 [[(.int Go.IntKind.u32 1), (.int Go.IntKind.u32 1), (.int Go.IntKind.u32 1), (.int Go.IntKind.u64 1), (.int Go.IntKind.u64 2), (.int Go.IntKind.u32 3), (.int Go.IntKind.u32 4), (.int Go.IntKind.i64 6), (.int Go.IntKind.i64 5), (.int Go.IntKind.i64 80), (.int Go.IntKind.i64 0), (.int Go.IntKind.i64 0), (.int Go.IntKind.i64 0), (.int Go.IntKind.i64 0), (.str []), (.str []), (.str []), (.str []), (.int Go.IntKind.i64 3), (.int Go.IntKind.i64 0), (.ro 3 [[(.int Go.IntKind.i64 1), (.int Go.IntKind.i64 1), (.int Go.IntKind.i64 2)]])]])
def aw_e18 : Rec := ⟨⟨0, 0⟩, 55, aw_a24, [aw_h10, aw_h12], [[(2, []), (4, [])], aw_o21, aw_o22], (aw_v25, [aw_h10, aw_h12], [[(2, []), (4, [])], aw_o21, aw_o22])⟩
theorem aw_c18 : aw_e18.ok (T aw_ps7) := Rec.run (l := []) trivial 64 (vf := vf55) rfl (by kernel_rfl) rfl
def aw_a26 : List SV := [(.ptr ⟨(.hp 0), 0, none⟩), (.p (.int Go.IntKind.u32 1)), (.pagg [(.int Go.IntKind.u32 1), (.int Go.IntKind.u32 1), (.int Go.IntKind.u64 1), (.int Go.IntKind.u64 2), (.int Go.IntKind.u32 3), (.int Go.IntKind.u32 4), (.int Go.IntKind.i64 6), (.int Go.IntKind.i64 5), (.int Go.IntKind.i64 80), (.int Go.IntKind.i64 0), (.int Go.IntKind.i64 0), (.int Go.IntKind.i64 0), (.int Go.IntKind.i64 0), (.str []), (.str []), (.str []), (.str []), (.int Go.IntKind.i64 3), (.int Go.IntKind.i64 0), (.ro 3 [[(.int Go.IntKind.i64 1), (.int Go.IntKind.i64 1), (.int Go.IntKind.i64 2)]])])]
def aw_h27 : List SV := [(.own 21 [[(.int Go.IntKind.u32 1), (.int Go.IntKind.u32 1), (.int Go.IntKind.u32 1), (.int Go.IntKind.u64 1), (.int Go.IntKind.u64 2), (.int Go.IntKind.u32 3), (.int Go.IntKind.u32 4), (.int Go.IntKind.i64 6), (.int Go.IntKind.i64 5), (.int Go.IntKind.i64 80), (.int Go.IntKind.i64 0), (.int Go.IntKind.i64 0), (.int Go.IntKind.i64 0), (.int Go.IntKind.i64 0), (.str []), (.str []), (.str []), (.str []), (.int Go.IntKind.i64 3), (.int Go.IntKind.i64 0), (.ro 3 [[(.int Go.IntKind.i64 1), (.int Go.IntKind.i64 1), (.int Go.IntKind.i64 2)]])]]), (.p (.int Go.IntKind.i64 4))]
def aw_e19 : Rec := ⟨⟨0, 0⟩, 43, aw_a26, [aw_h10, aw_h12], [[(2, []), (4, [])], aw_o21], ((.p (.int Go.IntKind.i64 0)), [aw_h27, aw_h12], [[(2, []), (4, [])], aw_o21])⟩
theorem aw_c19 : aw_e19.ok (T aw_ps7) := Rec.run (l := [aw_e17, aw_e18]) ⟨aw_c17, ⟨aw_c18, trivial⟩⟩ 64 (vf := vf43) rfl (by kernel_rfl) rfl
def aw_a28 : List SV := [(.ptr ⟨(.hp 1), 0, none⟩), (.pagg [(.int Go.IntKind.u32 0), (.int Go.IntKind.u32 1), (.int Go.IntKind.u64 1), (.int Go.IntKind.u64 2), (.int Go.IntKind.u32 3), (.int Go.IntKind.u32 4), (.int Go.IntKind.i64 6), (.int Go.IntKind.i64 5), (.int Go.IntKind.i64 80), (.int Go.IntKind.i64 0), (.int Go.IntKind.i64 0), (.int Go.IntKind.i64 0), (.int Go.IntKind.i64 0), (.str []), (.str []), (.str []), (.str []), (.int Go.IntKind.i64 3), (.int Go.IntKind.i64 0), (.ro 3 [[(.int Go.IntKind.i64 1), (.int Go.IntKind.i64 1), (.int Go.IntKind.i64 2)]])])]
def aw_v29 : SV := (.tup [(.pagg [(.int Go.IntKind.u32 1), (.int Go.IntKind.u32 1), (.int Go.IntKind.u64 1), (.int Go.IntKind.u64 2), (.int Go.IntKind.u32 3), (.int Go.IntKind.u32 4), (.int Go.IntKind.i64 6), (.int Go.IntKind.i64 5), (.int Go.IntKind.i64 80), (.int Go.IntKind.i64 0), (.int Go.IntKind.i64 0), (.int Go.IntKind.i64 0), (.int Go.IntKind.i64 0), (.str []), (.str []), (.str []), (.str []), (.int Go.IntKind.i64 3), (.int Go.IntKind.i64 0), (.ro 3 [[(.int Go.IntKind.i64 1), (.int Go.IntKind.i64 1), (.int Go.IntKind.i64 2)]])]), (.p (.int Go.IntKind.i64 0))])
def aw_h30 : List SV := [(.p (.int Go.IntKind.u32 1)), (.p (.int Go.IntKind.u32 1)), (.ptr ⟨(.hp 0), 0, none⟩)]
def aw_e20 : Rec := ⟨⟨0, 0⟩, 19, aw_a28, [aw_h10, aw_h12], [[(2, []), (4, [])]], (aw_v29, [aw_h27, aw_h30], [[(2, []), (4, [])]])⟩
theorem aw_c20 : aw_e20.ok (T aw_ps7) := Rec.run (l := [aw_e16, aw_e19]) ⟨aw_c16, ⟨aw_c19, trivial⟩⟩ 64 (vf := vf19) rfl (by kernel_rfl) rfl
def aw_o31 : List (Nat × List SV) := [(2, [(.p (.int Go.IntKind.u32 1)), (.p (.int Go.IntKind.u32 1)), (.p (.int Go.IntKind.u64 1)), (.p (.int Go.IntKind.u64 2)), (.p (.int Go.IntKind.u32 3)), (.p (.int Go.IntKind.u32 4)), (.p (.int Go.IntKind.i64 6)), (.p (.int Go.IntKind.i64 5)), (.p (.int Go.IntKind.i64 80)), (.p (.int Go.IntKind.i64 0)), (.p (.int Go.IntKind.i64 0)), (.p (.int Go.IntKind.i64 0)), (.p (.int Go.IntKind.i64 0)), (.p (.str [])), (.p (.str [])), (.p (.str [])), (.p (.str [])), (.p (.int Go.IntKind.i64 3)), (.p (.int Go.IntKind.i64 0)), (.p (.ro 3 [[(.int Go.IntKind.i64 1), (.int Go.IntKind.i64 1), (.int Go.IntKind.i64 2)]]))]), (4, [])]
def aw_o32 : List (Nat × List SV) := [(3, [(.p (.int Go.IntKind.u64 2)), (.p (.int Go.IntKind.u64 1)), (.p (.int Go.IntKind.u32 4)), (.p (.int Go.IntKind.u32 3)), (.p (.int Go.IntKind.i64 6)), (.p (.int Go.IntKind.i64 80)), (.p (.int Go.IntKind.i64 5))]), (4, [(.p (.int Go.IntKind.u32 0)), (.p (.int Go.IntKind.u32 0)), (.p (.int Go.IntKind.u64 0)), (.p (.int Go.IntKind.u64 0)), (.p (.int Go.IntKind.u32 0)), (.p (.int Go.IntKind.u32 0)), (.p (.int Go.IntKind.i64 0)), (.p (.int Go.IntKind.i64 0)), (.p (.int Go.IntKind.i64 0)), (.p (.int Go.IntKind.i64 0)), (.p (.int Go.IntKind.i64 0)), (.p (.int Go.IntKind.i64 0)), (.p (.int Go.IntKind.i64 0)), (.p (.str [])), (.p (.str [])), (.p (.str [])), (.p (.str [])), (.p (.int Go.IntKind.i64 0)), (.p (.int Go.IntKind.i64 0)), (.p .nils)]), (6, [])]
def aw_e21 : Rec := ⟨⟨2, 5⟩, 53, [(.ptr ⟨(.hp 0), 0, none⟩)], [aw_h27, aw_h30], [aw_o31, aw_o32, aw_o16, [(5, [])], []], ((.p (.int Go.IntKind.i64 1)), [aw_h27, aw_h30], [aw_o31, aw_o32, aw_o16, [(5, [])], []])⟩
theorem aw_c21 : aw_e21.ok (T aw_ps7) := Rec.run (l := []) trivial 64 (vf := vf53) rfl (by kernel_rfl) rfl
def aw_v33 : SV := (.own 20 [[(.int Go.IntKind.u32 1), (.int Go.IntKind.u32 1), (.int Go.IntKind.u64 1), (.int Go.IntKind.u64 2), (.int Go.IntKind.u32 3), (.int Go.IntKind.u32 4), (.int Go.IntKind.i64 6), (.int Go.IntKind.i64 5), (.int Go.IntKind.i64 80), (.int Go.IntKind.i64 0), (.int Go.IntKind.i64 0), (.int Go.IntKind.i64 0), (.int Go.IntKind.i64 0), (.str []), (.str []), (.str []), (.str []), (.int Go.IntKind.i64 3), (.int Go.IntKind.i64 0), (.ro 3 [[(.int Go.IntKind.i64 1), (.int Go.IntKind.i64 1), (.int Go.IntKind.i64 2)]])]])
def aw_e22 : Rec := ⟨⟨2, 4⟩, 35, [(.ptr ⟨(.hp 0), 0, none⟩)], [aw_h27, aw_h30], [aw_o31, aw_o32, aw_o16, [(5, [])]], (aw_v33, [aw_h27, aw_h30], [aw_o31, aw_o32, aw_o16, [(5, [])]])⟩
theorem aw_c22 : aw_e22.ok (T aw_ps7) := Rec.run (l := [aw_e21]) ⟨aw_c21, trivial⟩ 64 (vf := vf35) rfl (by kernel_rfl) rfl
def aw_e23 : Rec := ⟨⟨2, 3⟩, 11, [(.ptr ⟨(.hp 1), 0, none⟩)], [aw_h27, aw_h30], [aw_o31, aw_o32, aw_o16], (aw_v33, [aw_h27, aw_h30], [aw_o31, aw_o32, aw_o16])⟩
theorem aw_c23 : aw_e23.ok (T aw_ps7) := Rec.run (l := [aw_e22]) ⟨aw_c22, trivial⟩ 64 (vf := vf11) rfl (by kernel_rfl) rfl
def aw_a34 : List SV := [(.pagg [(.int Go.IntKind.u32 1), (.int Go.IntKind.u32 1), (.int Go.IntKind.u64 1), (.int Go.IntKind.u64 2), (.int Go.IntKind.u32 3), (.int Go.IntKind.u32 4), (.int Go.IntKind.i64 6), (.int Go.IntKind.i64 5), (.int Go.IntKind.i64 80), (.int Go.IntKind.i64 0), (.int Go.IntKind.i64 0), (.int Go.IntKind.i64 0), (.int Go.IntKind.i64 0), (.str []), (.str []), (.str []), (.str []), (.int Go.IntKind.i64 3), (.int Go.IntKind.i64 0), (.ro 3 [[(.int Go.IntKind.i64 1), (.int Go.IntKind.i64 1), (.int Go.IntKind.i64 2)]])]), (.ptr ⟨(.st 2 3), 0, none⟩)]
def aw_e24 : Rec := ⟨⟨2, 4⟩, 45, aw_a34, [aw_h27, aw_h30], [aw_o31, aw_o32, aw_o16, []], ((.p (.bool true)), [aw_h27, aw_h30], [aw_o31, aw_o32, aw_o16, []])⟩
theorem aw_c24 : aw_e24.ok (T aw_ps7) := Rec.run (l := []) trivial 64 (vf := vf45) rfl (by kernel_rfl) rfl
def aw_a35 : List SV := [(.lent 20 [[(.int Go.IntKind.u32 1), (.int Go.IntKind.u32 1), (.int Go.IntKind.u64 1), (.int Go.IntKind.u64 2), (.int Go.IntKind.u32 3), (.int Go.IntKind.u32 4), (.int Go.IntKind.i64 6), (.int Go.IntKind.i64 5), (.int Go.IntKind.i64 80), (.int Go.IntKind.i64 0), (.int Go.IntKind.i64 0), (.int Go.IntKind.i64 0), (.int Go.IntKind.i64 0), (.str []), (.str []), (.str []), (.str []), (.int Go.IntKind.i64 3), (.int Go.IntKind.i64 0), (.ro 3 [[(.int Go.IntKind.i64 1), (.int Go.IntKind.i64 1), (.int Go.IntKind.i64 2)]])]]), (.fn 45 [(.ptr ⟨(.st 2 3), 0, none⟩)])]
def aw_e25 : Rec := ⟨⟨2, 3⟩, 44, aw_a35, [aw_h27, aw_h30], [aw_o31, aw_o32, aw_o16], ((.p (.int Go.IntKind.i64 0)), [aw_h27, aw_h30], [aw_o31, aw_o32, aw_o16])⟩
theorem aw_c25 : aw_e25.ok (T aw_ps7) := Rec.run (l := [aw_e24]) ⟨aw_c24, trivial⟩ 64 (vf := vf44) rfl (by kernel_rfl) rfl
def aw_v36 : SV := (.tup [(.pagg [(.int Go.IntKind.u32 1), (.int Go.IntKind.u32 1), (.int Go.IntKind.u64 1), (.int Go.IntKind.u64 2), (.int Go.IntKind.u32 3), (.int Go.IntKind.u32 4), (.int Go.IntKind.i64 6), (.int Go.IntKind.i64 5), (.int Go.IntKind.i64 80), (.int Go.IntKind.i64 0), (.int Go.IntKind.i64 0), (.int Go.IntKind.i64 0), (.int Go.IntKind.i64 0), (.str []), (.str []), (.str []), (.str []), (.int Go.IntKind.i64 3), (.int Go.IntKind.i64 0), (.ro 3 [[(.int Go.IntKind.i64 1), (.int Go.IntKind.i64 1), (.int Go.IntKind.i64 2)]])]), (.p (.bool true))])
def aw_e26 : Rec := ⟨⟨2, 2⟩, 21, aw_a18, [aw_h27, aw_h30], [aw_o31, aw_o32], (aw_v36, [aw_h27, aw_h30], [aw_o31, aw_o32])⟩
theorem aw_c26 : aw_e26.ok (T aw_ps7) := Rec.run (l := [aw_e23, aw_e25]) ⟨aw_c23, ⟨aw_c25, trivial⟩⟩ 64 (vf := vf21) rfl (by kernel_rfl) rfl
def aw_a37 : List SV := [(.ptr ⟨(.hp 1), 0, none⟩), (.pagg [(.int Go.IntKind.u64 2), (.int Go.IntKind.u64 1), (.int Go.IntKind.u32 4), (.int Go.IntKind.u32 3), (.int Go.IntKind.i64 6), (.int Go.IntKind.i64 80), (.int Go.IntKind.i64 5)])]
def aw_e27 : Rec := ⟨⟨2, 1⟩, 14, aw_a37, [aw_h27, aw_h30], [aw_o31], (aw_v36, [aw_h27, aw_h30], [aw_o31])⟩
theorem aw_c27 : aw_e27.ok (T aw_ps7) := Rec.run (l := [aw_e26]) ⟨aw_c26, trivial⟩ 64 (vf := vf14) rfl (by kernel_rfl) rfl
def aw_h38 : List SV := [(.p (.int Go.IntKind.u32 2)), (.p (.int Go.IntKind.u32 1)), (.ptr ⟨(.hp 0), 0, none⟩)]
def aw_o39 : List (Nat × List SV) := [(2, [(.p (.int Go.IntKind.u32 1)), (.p (.int Go.IntKind.u32 1)), (.p (.int Go.IntKind.u64 1)), (.p (.int Go.IntKind.u64 2)), (.p (.int Go.IntKind.u32 3)), (.p (.int Go.IntKind.u32 4)), (.p (.int Go.IntKind.i64 6)), (.p (.int Go.IntKind.i64 5)), (.p (.int Go.IntKind.i64 80)), (.p (.int Go.IntKind.i64 0)), (.p (.int Go.IntKind.i64 0)), (.p (.int Go.IntKind.i64 0)), (.p (.int Go.IntKind.i64 0)), (.p (.str [])), (.p (.str [])), (.p (.str [])), (.p (.str [])), (.p (.int Go.IntKind.i64 3)), (.p (.int Go.IntKind.i64 0)), (.p (.ro 3 [[(.int Go.IntKind.i64 1), (.int Go.IntKind.i64 1), (.int Go.IntKind.i64 2)]]))]), (4, [(.p (.int Go.IntKind.u32 1)), (.p (.int Go.IntKind.u32 1)), (.p (.int Go.IntKind.u64 1)), (.p (.int Go.IntKind.u64 2)), (.p (.int Go.IntKind.u32 3)), (.p (.int Go.IntKind.u32 4)), (.p (.int Go.IntKind.i64 6)), (.p (.int Go.IntKind.i64 5)), (.p (.int Go.IntKind.i64 80)), (.p (.int Go.IntKind.i64 0)), (.p (.int Go.IntKind.i64 0)), (.p (.int Go.IntKind.i64 0)), (.p (.int Go.IntKind.i64 0)), (.p (.str [])), (.p (.str [])), (.p (.str [])), (.p (.str [])), (.p (.int Go.IntKind.i64 3)), (.p (.int Go.IntKind.i64 0)), (.p (.ro 3 [[(.int Go.IntKind.i64 1), (.int Go.IntKind.i64 1), (.int Go.IntKind.i64 2)]]))])]
def aw_e28 : Rec := ⟨⟨2, 3⟩, 53, [(.ptr ⟨(.hp 0), 0, none⟩)], [aw_h27, aw_h38], [aw_o39, [], [(8, [])]], ((.p (.int Go.IntKind.i64 1)), [aw_h27, aw_h38], [aw_o39, [], [(8, [])]])⟩
theorem aw_c28 : aw_e28.ok (T aw_ps7) := Rec.run (l := []) trivial 64 (vf := vf53) rfl (by kernel_rfl) rfl
def aw_e29 : Rec := ⟨⟨0, 0⟩, 47, aw_a13, [aw_h27, aw_h38], [aw_o39, []], (aw_v33, [aw_h10, aw_h38], [aw_o39, []])⟩
theorem aw_c29 : aw_e29.ok (T aw_ps7) := Rec.run (l := [aw_e28]) ⟨aw_c28, trivial⟩ 64 (vf := vf47) rfl (by kernel_rfl) rfl
def aw_a40 : List SV := [(.ptr ⟨(.hp 1), 0, none⟩), (.p (.int Go.IntKind.u32 2))]
def aw_e30 : Rec := ⟨⟨0, 0⟩, 23, aw_a40, [aw_h27, aw_h30], [aw_o39], (aw_v33, [aw_h10, aw_h38], [aw_o39])⟩
theorem aw_c30 : aw_e30.ok (T aw_ps7) := Rec.run (l := [aw_e29]) ⟨aw_c29, trivial⟩ 64 (vf := vf23) rfl (by kernel_rfl) rfl
def aw_e31 : Rec := ⟨⟨2, 3⟩, 53, [(.ptr ⟨(.hp 0), 0, none⟩)], [aw_h10, aw_h38], [aw_o39, [(5, [])], []], ((.p (.int Go.IntKind.i64 0)), [aw_h10, aw_h38], [aw_o39, [(5, [])], []])⟩
theorem aw_c31 : aw_e31.ok (T aw_ps7) := Rec.run (l := []) trivial 64 (vf := vf53) rfl (by kernel_rfl) rfl
def aw_e32 : Rec := ⟨⟨2, 2⟩, 35, [(.ptr ⟨(.hp 0), 0, none⟩)], [aw_h10, aw_h38], [aw_o39, [(5, [])]], ((.p .nils), [aw_h10, aw_h38], [aw_o39, [(5, [])]])⟩
theorem aw_c32 : aw_e32.ok (T aw_ps7) := Rec.run (l := [aw_e31]) ⟨aw_c31, trivial⟩ 64 (vf := vf35) rfl (by kernel_rfl) rfl
def aw_e33 : Rec := ⟨⟨2, 1⟩, 11, [(.ptr ⟨(.hp 1), 0, none⟩)], [aw_h10, aw_h38], [aw_o39], ((.p .nils), [aw_h10, aw_h38], [aw_o39])⟩
theorem aw_c33 : aw_e33.ok (T aw_ps7) := Rec.run (l := [aw_e32]) ⟨aw_c32, trivial⟩ 64 (vf := vf11) rfl (by kernel_rfl) rfl
def aw_e34 : Rec := ⟨⟨2, 1⟩, 12, [(.ptr ⟨(.hp 1), 0, none⟩)], [aw_h10, aw_h38], [aw_o39], ((.p (.int Go.IntKind.u32 2)), [aw_h10, aw_h38], [aw_o39])⟩
theorem aw_c34 : aw_e34.ok (T aw_ps7) := Rec.run (l := []) trivial 64 (vf := vf12) rfl (by kernel_rfl) rfl
def aw_e35 : Rec := ⟨⟨0, 0⟩, 13, [], [], [], ((.p (.bool true)), [aw_h10, aw_h38], [])⟩
theorem aw_c35 : aw_e35.ok (T aw_ps7) := Rec.run (l := [aw_e8, aw_e11, aw_e20, aw_e27, aw_e30, aw_e33, aw_e34]) ⟨aw_c8, ⟨aw_c11, ⟨aw_c20, ⟨aw_c27, ⟨aw_c30, ⟨aw_c33, ⟨aw_c34, trivial⟩⟩⟩⟩⟩⟩⟩ 64 (vf := vf13) rfl (by kernel_rfl) rfl
/-- the outermost call, as a function by hand -/
def aw_q : List Rec := [aw_e35]
theorem aw_prim : QPrimOk Try.prog 13 (qL aw_q) := pureQ aw_ok7 (qL_ok (T := T aw_ps7) (f := 13) (l := aw_q) ⟨⟨rfl, rfl, rfl, rfl, rfl, rfl, aw_c35⟩, trivial⟩)
end Go.Proofs.Ytidlbomanfkibaa.L
