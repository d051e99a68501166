import Derived.Test.YtkkainkhjimcmaaVG
import Derived.Test.YtkkainkhjimcmaaFuns
/-
A closed run, call by call. Printed by program.
-/
namespace Go.Proofs.Ytkkainkhjimcmaa.L
open Go Go.VM
set_option linter.unusedVariables false
set_option maxRecDepth 100000
set_option maxHeartbeats 4000000
def aw_ps0 : List (Nat × Prim) := []
theorem aw_ok0 : PrimOk Try.prog (T aw_ps0) := prims_nil
def aw_e0 : Rec := ⟨⟨0, 0⟩, 21, [(.p (.int Go.IntKind.u8 118))], [], [], ((.p (.bool true)), [], [])⟩
theorem aw_c0 : aw_e0.ok (T aw_ps0) := Rec.run (l := []) trivial 64 (vf := vf21) rfl (by kernel_rfl) rfl
def aw_e1 : Rec := ⟨⟨0, 0⟩, 21, [(.p (.int Go.IntKind.u8 105))], [], [], ((.p (.bool true)), [], [])⟩
theorem aw_c1 : aw_e1.ok (T aw_ps0) := Rec.run (l := []) trivial 64 (vf := vf21) rfl (by kernel_rfl) rfl
def aw_e2 : Rec := ⟨⟨0, 0⟩, 21, [(.p (.int Go.IntKind.u8 97))], [], [], ((.p (.bool true)), [], [])⟩
theorem aw_c2 : aw_e2.ok (T aw_ps0) := Rec.run (l := []) trivial 64 (vf := vf21) rfl (by kernel_rfl) rfl
def aw_e3 : Rec := ⟨⟨0, 0⟩, 21, [(.p (.int Go.IntKind.u8 32))], [], [], ((.p (.bool false)), [], [])⟩
theorem aw_c3 : aw_e3.ok (T aw_ps0) := Rec.run (l := []) trivial 64 (vf := vf21) rfl (by kernel_rfl) rfl
def aw_e4 : Rec := ⟨⟨0, 0⟩, 21, [(.p (.int Go.IntKind.u8 51))], [], [], ((.p (.bool false)), [], [])⟩
theorem aw_c4 : aw_e4.ok (T aw_ps0) := Rec.run (l := []) trivial 64 (vf := vf21) rfl (by kernel_rfl) rfl
def aw_e5 : Rec := ⟨⟨0, 0⟩, 21, [(.p (.int Go.IntKind.u8 58))], [], [], ((.p (.bool false)), [], [])⟩
theorem aw_c5 : aw_e5.ok (T aw_ps0) := Rec.run (l := []) trivial 64 (vf := vf21) rfl (by kernel_rfl) rfl
def aw_e6 : Rec := ⟨⟨0, 0⟩, 21, [(.p (.int Go.IntKind.u8 45))], [], [], ((.p (.bool false)), [], [])⟩
theorem aw_c6 : aw_e6.ok (T aw_ps0) := Rec.run (l := []) trivial 64 (vf := vf21) rfl (by kernel_rfl) rfl
def aw_e7 : Rec := ⟨⟨0, 0⟩, 21, [(.p (.int Go.IntKind.u8 98))], [], [], ((.p (.bool true)), [], [])⟩
theorem aw_c7 : aw_e7.ok (T aw_ps0) := Rec.run (l := []) trivial 64 (vf := vf21) rfl (by kernel_rfl) rfl
def aw_e8 : Rec := ⟨⟨0, 0⟩, 21, [(.p (.int Go.IntKind.u8 59))], [], [], ((.p (.bool false)), [], [])⟩
theorem aw_c8 : aw_e8.ok (T aw_ps0) := Rec.run (l := []) trivial 64 (vf := vf21) rfl (by kernel_rfl) rfl
def aw_q21 : List Rec := [aw_e0, aw_e1, aw_e2, aw_e3, aw_e4, aw_e5, aw_e6, aw_e7, aw_e8]
theorem aw_p21 : QPrimOk Try.prog 21 (qL aw_q21) := pureQ aw_ok0 (qL_ok (T := T aw_ps0) (f := 21) (l := aw_q21) ⟨⟨rfl, rfl, rfl, rfl, rfl, rfl, aw_c0⟩, ⟨⟨rfl, rfl, rfl, rfl, rfl, rfl, aw_c1⟩, ⟨⟨rfl, rfl, rfl, rfl, rfl, rfl, aw_c2⟩, ⟨⟨rfl, rfl, rfl, rfl, rfl, rfl, aw_c3⟩, ⟨⟨rfl, rfl, rfl, rfl, rfl, rfl, aw_c4⟩, ⟨⟨rfl, rfl, rfl, rfl, rfl, rfl, aw_c5⟩, ⟨⟨rfl, rfl, rfl, rfl, rfl, rfl, aw_c6⟩, ⟨⟨rfl, rfl, rfl, rfl, rfl, rfl, aw_c7⟩, ⟨⟨rfl, rfl, rfl, rfl, rfl, rfl, aw_c8⟩, trivial⟩⟩⟩⟩⟩⟩⟩⟩⟩)
def aw_ps1 : List (Nat × Prim) := (21, .q (qL aw_q21)) :: aw_ps0
theorem aw_ok1 : PrimOk Try.prog (T aw_ps1) := prims_q aw_p21 aw_ok0
def aw_e9 : Rec := ⟨⟨0, 0⟩, 24, [(.p (.int Go.IntKind.u8 32))], [], [], ((.p (.bool false)), [], [])⟩
theorem aw_c9 : aw_e9.ok (T aw_ps1) := Rec.run (l := []) trivial 64 (vf := vf24) rfl (by kernel_rfl) rfl
def aw_e10 : Rec := ⟨⟨0, 0⟩, 24, [(.p (.int Go.IntKind.u8 118))], [], [], ((.p (.bool false)), [], [])⟩
theorem aw_c10 : aw_e10.ok (T aw_ps1) := Rec.run (l := []) trivial 64 (vf := vf24) rfl (by kernel_rfl) rfl
def aw_e11 : Rec := ⟨⟨0, 0⟩, 24, [(.p (.int Go.IntKind.u8 51))], [], [], ((.p (.bool true)), [], [])⟩
theorem aw_c11 : aw_e11.ok (T aw_ps1) := Rec.run (l := []) trivial 64 (vf := vf24) rfl (by kernel_rfl) rfl
def aw_e12 : Rec := ⟨⟨0, 0⟩, 24, [(.p (.int Go.IntKind.u8 58))], [], [], ((.p (.bool false)), [], [])⟩
theorem aw_c12 : aw_e12.ok (T aw_ps1) := Rec.run (l := []) trivial 64 (vf := vf24) rfl (by kernel_rfl) rfl
def aw_e13 : Rec := ⟨⟨0, 0⟩, 24, [(.p (.int Go.IntKind.u8 45))], [], [], ((.p (.bool false)), [], [])⟩
theorem aw_c13 : aw_e13.ok (T aw_ps1) := Rec.run (l := []) trivial 64 (vf := vf24) rfl (by kernel_rfl) rfl
def aw_e14 : Rec := ⟨⟨0, 0⟩, 24, [(.p (.int Go.IntKind.u8 97))], [], [], ((.p (.bool false)), [], [])⟩
theorem aw_c14 : aw_e14.ok (T aw_ps1) := Rec.run (l := []) trivial 64 (vf := vf24) rfl (by kernel_rfl) rfl
def aw_e15 : Rec := ⟨⟨0, 0⟩, 24, [(.p (.int Go.IntKind.u8 59))], [], [], ((.p (.bool false)), [], [])⟩
theorem aw_c15 : aw_e15.ok (T aw_ps1) := Rec.run (l := []) trivial 64 (vf := vf24) rfl (by kernel_rfl) rfl
def aw_e16 : Rec := ⟨⟨0, 0⟩, 24, [(.p (.int Go.IntKind.u8 98))], [], [], ((.p (.bool false)), [], [])⟩
theorem aw_c16 : aw_e16.ok (T aw_ps1) := Rec.run (l := []) trivial 64 (vf := vf24) rfl (by kernel_rfl) rfl
def aw_q24 : List Rec := [aw_e9, aw_e10, aw_e11, aw_e12, aw_e13, aw_e14, aw_e15, aw_e16]
theorem aw_p24 : QPrimOk Try.prog 24 (qL aw_q24) := pureQ aw_ok1 (qL_ok (T := T aw_ps1) (f := 24) (l := aw_q24) ⟨⟨rfl, rfl, rfl, rfl, rfl, rfl, aw_c9⟩, ⟨⟨rfl, rfl, rfl, rfl, rfl, rfl, aw_c10⟩, ⟨⟨rfl, rfl, rfl, rfl, rfl, rfl, aw_c11⟩, ⟨⟨rfl, rfl, rfl, rfl, rfl, rfl, aw_c12⟩, ⟨⟨rfl, rfl, rfl, rfl, rfl, rfl, aw_c13⟩, ⟨⟨rfl, rfl, rfl, rfl, rfl, rfl, aw_c14⟩, ⟨⟨rfl, rfl, rfl, rfl, rfl, rfl, aw_c15⟩, ⟨⟨rfl, rfl, rfl, rfl, rfl, rfl, aw_c16⟩, trivial⟩⟩⟩⟩⟩⟩⟩⟩)
def aw_ps2 : List (Nat × Prim) := (24, .q (qL aw_q24)) :: aw_ps1
theorem aw_ok2 : PrimOk Try.prog (T aw_ps2) := prims_q aw_p24 aw_ok1
def aw_a0 : List SV := [(.p (.str [118, 105, 97, 32, 51, 58, 32, 97, 45, 62, 98, 59]))]
def aw_e17 : Rec := ⟨⟨0, 0⟩, 18, aw_a0, [], [], ((.p (.int Go.IntKind.i64 3)), [], [])⟩
theorem aw_c17 : aw_e17.ok (T aw_ps2) := Rec.run (l := []) trivial 64 (vf := vf18) rfl (by kernel_rfl) rfl
def aw_a1 : List SV := [(.p (.str [51, 58, 32, 97, 45, 62, 98, 59]))]
def aw_e18 : Rec := ⟨⟨0, 0⟩, 18, aw_a1, [], [], ((.p (.int Go.IntKind.i64 1)), [], [])⟩
theorem aw_c18 : aw_e18.ok (T aw_ps2) := Rec.run (l := []) trivial 64 (vf := vf18) rfl (by kernel_rfl) rfl
def aw_a2 : List SV := [(.p (.str [58, 32, 97, 45, 62, 98, 59]))]
def aw_e19 : Rec := ⟨⟨0, 0⟩, 18, aw_a2, [], [], ((.p (.int Go.IntKind.i64 0)), [], [])⟩
theorem aw_c19 : aw_e19.ok (T aw_ps2) := Rec.run (l := []) trivial 64 (vf := vf18) rfl (by kernel_rfl) rfl
def aw_e20 : Rec := ⟨⟨0, 0⟩, 18, [(.p (.str [97, 45, 62, 98, 59]))], [], [], ((.p (.int Go.IntKind.i64 1)), [], [])⟩
theorem aw_c20 : aw_e20.ok (T aw_ps2) := Rec.run (l := []) trivial 64 (vf := vf18) rfl (by kernel_rfl) rfl
def aw_e21 : Rec := ⟨⟨0, 0⟩, 18, [(.p (.str [45, 62, 98, 59]))], [], [], ((.p (.int Go.IntKind.i64 0)), [], [])⟩
theorem aw_c21 : aw_e21.ok (T aw_ps2) := Rec.run (l := []) trivial 64 (vf := vf18) rfl (by kernel_rfl) rfl
def aw_e22 : Rec := ⟨⟨0, 0⟩, 18, [(.p (.str [98, 59]))], [], [], ((.p (.int Go.IntKind.i64 1)), [], [])⟩
theorem aw_c22 : aw_e22.ok (T aw_ps2) := Rec.run (l := []) trivial 64 (vf := vf18) rfl (by kernel_rfl) rfl
def aw_e23 : Rec := ⟨⟨0, 0⟩, 18, [(.p (.str [59]))], [], [], ((.p (.int Go.IntKind.i64 0)), [], [])⟩
theorem aw_c23 : aw_e23.ok (T aw_ps2) := Rec.run (l := []) trivial 64 (vf := vf18) rfl (by kernel_rfl) rfl
def aw_q18 : List Rec := [aw_e17, aw_e18, aw_e19, aw_e20, aw_e21, aw_e22, aw_e23]
theorem aw_p18 : QPrimOk Try.prog 18 (qL aw_q18) := pureQ aw_ok2 (qL_ok (T := T aw_ps2) (f := 18) (l := aw_q18) ⟨⟨rfl, rfl, rfl, rfl, rfl, rfl, aw_c17⟩, ⟨⟨rfl, rfl, rfl, rfl, rfl, rfl, aw_c18⟩, ⟨⟨rfl, rfl, rfl, rfl, rfl, rfl, aw_c19⟩, ⟨⟨rfl, rfl, rfl, rfl, rfl, rfl, aw_c20⟩, ⟨⟨rfl, rfl, rfl, rfl, rfl, rfl, aw_c21⟩, ⟨⟨rfl, rfl, rfl, rfl, rfl, rfl, aw_c22⟩, ⟨⟨rfl, rfl, rfl, rfl, rfl, rfl, aw_c23⟩, trivial⟩⟩⟩⟩⟩⟩⟩)
def aw_ps3 : List (Nat × Prim) := (18, .q (qL aw_q18)) :: aw_ps2
theorem aw_ok3 : PrimOk Try.prog (T aw_ps3) := prims_q aw_p18 aw_ok2
def aw_e24 : Rec := ⟨⟨0, 0⟩, 19, [(.p (.str [118, 105, 97]))], [], [], ((.p (.bool false)), [], [])⟩
theorem aw_c24 : aw_e24.ok (T aw_ps3) := Rec.run (l := []) trivial 64 (vf := vf19) rfl (by kernel_rfl) rfl
def aw_e25 : Rec := ⟨⟨0, 0⟩, 19, [(.p (.str [51]))], [], [], ((.p (.bool true)), [], [])⟩
theorem aw_c25 : aw_e25.ok (T aw_ps3) := Rec.run (l := []) trivial 64 (vf := vf19) rfl (by kernel_rfl) rfl
def aw_e26 : Rec := ⟨⟨0, 0⟩, 19, [(.p (.str [97]))], [], [], ((.p (.bool false)), [], [])⟩
theorem aw_c26 : aw_e26.ok (T aw_ps3) := Rec.run (l := []) trivial 64 (vf := vf19) rfl (by kernel_rfl) rfl
def aw_e27 : Rec := ⟨⟨0, 0⟩, 19, [(.p (.str [98]))], [], [], ((.p (.bool false)), [], [])⟩
theorem aw_c27 : aw_e27.ok (T aw_ps3) := Rec.run (l := []) trivial 64 (vf := vf19) rfl (by kernel_rfl) rfl
def aw_q19 : List Rec := [aw_e24, aw_e25, aw_e26, aw_e27]
theorem aw_p19 : QPrimOk Try.prog 19 (qL aw_q19) := pureQ aw_ok3 (qL_ok (T := T aw_ps3) (f := 19) (l := aw_q19) ⟨⟨rfl, rfl, rfl, rfl, rfl, rfl, aw_c24⟩, ⟨⟨rfl, rfl, rfl, rfl, rfl, rfl, aw_c25⟩, ⟨⟨rfl, rfl, rfl, rfl, rfl, rfl, aw_c26⟩, ⟨⟨rfl, rfl, rfl, rfl, rfl, rfl, aw_c27⟩, trivial⟩⟩⟩⟩)
def aw_ps4 : List (Nat × Prim) := (19, .q (qL aw_q19)) :: aw_ps3
theorem aw_ok4 : PrimOk Try.prog (T aw_ps4) := prims_q aw_p19 aw_ok3
def aw_v3 : SV := (.tup [(.pagg [(.int Go.IntKind.i64 2), (.str [51]), (.int Go.IntKind.i64 3), (.int Go.IntKind.i64 0)]), (.p (.int Go.IntKind.i64 0))])
def aw_e28 : Rec := ⟨⟨0, 0⟩, 20, [(.p (.str [51]))], [], [], (aw_v3, [], [])⟩
theorem aw_c28 : aw_e28.ok (T aw_ps4) := Rec.run (l := []) trivial 64 (vf := vf20) rfl (by kernel_rfl) rfl
def aw_q20 : List Rec := [aw_e28]
theorem aw_p20 : QPrimOk Try.prog 20 (qL aw_q20) := pureQ aw_ok4 (qL_ok (T := T aw_ps4) (f := 20) (l := aw_q20) ⟨⟨rfl, rfl, rfl, rfl, rfl, rfl, aw_c28⟩, trivial⟩)
def aw_ps5 : List (Nat × Prim) := (20, .q (qL aw_q20)) :: aw_ps4
theorem aw_ok5 : PrimOk Try.prog (T aw_ps5) := prims_q aw_p20 aw_ok4
def aw_a4 : List SV := [(.p (.str [45, 62, 98, 59])), (.p (.str [45, 62]))]
def aw_e29 : Rec := ⟨⟨0, 0⟩, 25, aw_a4, [], [], ((.p (.bool true)), [], [])⟩
theorem aw_c29 : aw_e29.ok (T aw_ps5) := Rec.run (l := []) trivial 64 (vf := vf25) rfl (by kernel_rfl) rfl
def aw_q25 : List Rec := [aw_e29]
theorem aw_p25 : QPrimOk Try.prog 25 (qL aw_q25) := pureQ aw_ok5 (qL_ok (T := T aw_ps5) (f := 25) (l := aw_q25) ⟨⟨rfl, rfl, rfl, rfl, rfl, rfl, aw_c29⟩, trivial⟩)
def aw_ps6 : List (Nat × Prim) := (25, .q (qL aw_q25)) :: aw_ps5
theorem aw_ok6 : PrimOk Try.prog (T aw_ps6) := prims_q aw_p25 aw_ok5
def aw_e30 : Rec := ⟨⟨0, 0⟩, 22, aw_a4, [], [], ((.p (.bool true)), [], [])⟩
theorem aw_c30 : aw_e30.ok (T aw_ps6) := Rec.run (l := []) trivial 64 (vf := vf22) rfl (by kernel_rfl) rfl
def aw_q22 : List Rec := [aw_e30]
theorem aw_p22 : QPrimOk Try.prog 22 (qL aw_q22) := pureQ aw_ok6 (qL_ok (T := T aw_ps6) (f := 22) (l := aw_q22) ⟨⟨rfl, rfl, rfl, rfl, rfl, rfl, aw_c30⟩, trivial⟩)
def aw_ps7 : List (Nat × Prim) := (22, .q (qL aw_q22)) :: aw_ps6
theorem aw_ok7 : PrimOk Try.prog (T aw_ps7) := prims_q aw_p22 aw_ok6
def aw_a5 : List SV := [(.p (.str [118, 105, 97, 32, 51, 58, 32, 97, 45, 62, 98, 59])), (.p (.int Go.IntKind.i64 0))]
def aw_e31 : Rec := ⟨⟨0, 2⟩, 13, aw_a5, [], [[], [(7, [])]], ((.p (.int Go.IntKind.i64 0)), [], [[], [(7, [])]])⟩
theorem aw_c31 : aw_e31.ok (T aw_ps7) := Rec.run (l := []) trivial 64 (vf := vf13) rfl (by kernel_rfl) rfl
def aw_v6 : SV := (.tup [(.pagg [(.int Go.IntKind.i64 1), (.str [118, 105, 97]), (.int Go.IntKind.i64 0), (.int Go.IntKind.i64 0)]), (.p (.int Go.IntKind.i64 0))])
def aw_e32 : Rec := ⟨⟨0, 2⟩, 14, aw_a0, [], [[], [(7, [])]], (aw_v6, [], [[], [(7, [])]])⟩
theorem aw_c32 : aw_e32.ok (T aw_ps7) := Rec.run (l := []) trivial 64 (vf := vf14) rfl (by kernel_rfl) rfl
def aw_a7 : List SV := [(.p (.str [118, 105, 97, 32, 51, 58, 32, 97, 45, 62, 98, 59])), (.p (.int Go.IntKind.i64 3))]
def aw_e33 : Rec := ⟨⟨0, 2⟩, 13, aw_a7, [], [[], [(7, [])]], ((.p (.int Go.IntKind.i64 4)), [], [[], [(7, [])]])⟩
theorem aw_c33 : aw_e33.ok (T aw_ps7) := Rec.run (l := []) trivial 64 (vf := vf13) rfl (by kernel_rfl) rfl
def aw_e34 : Rec := ⟨⟨0, 2⟩, 14, aw_a1, [], [[], [(7, [])]], (aw_v3, [], [[], [(7, [])]])⟩
theorem aw_c34 : aw_e34.ok (T aw_ps7) := Rec.run (l := []) trivial 64 (vf := vf14) rfl (by kernel_rfl) rfl
def aw_a8 : List SV := [(.p (.str [118, 105, 97, 32, 51, 58, 32, 97, 45, 62, 98, 59])), (.p (.int Go.IntKind.i64 5))]
def aw_e35 : Rec := ⟨⟨0, 2⟩, 13, aw_a8, [], [[], [(7, [])]], ((.p (.int Go.IntKind.i64 5)), [], [[], [(7, [])]])⟩
theorem aw_c35 : aw_e35.ok (T aw_ps7) := Rec.run (l := []) trivial 64 (vf := vf13) rfl (by kernel_rfl) rfl
def aw_v9 : SV := (.tup [(.pagg [(.int Go.IntKind.i64 3), (.str [58]), (.int Go.IntKind.i64 0), (.int Go.IntKind.i64 0)]), (.p (.int Go.IntKind.i64 0))])
def aw_e36 : Rec := ⟨⟨0, 2⟩, 14, aw_a2, [], [[], [(7, [])]], (aw_v9, [], [[], [(7, [])]])⟩
theorem aw_c36 : aw_e36.ok (T aw_ps7) := Rec.run (l := []) trivial 64 (vf := vf14) rfl (by kernel_rfl) rfl
def aw_a10 : List SV := [(.p (.str [118, 105, 97, 32, 51, 58, 32, 97, 45, 62, 98, 59])), (.p (.int Go.IntKind.i64 6))]
def aw_e37 : Rec := ⟨⟨0, 2⟩, 13, aw_a10, [], [[], [(7, [])]], ((.p (.int Go.IntKind.i64 7)), [], [[], [(7, [])]])⟩
theorem aw_c37 : aw_e37.ok (T aw_ps7) := Rec.run (l := []) trivial 64 (vf := vf13) rfl (by kernel_rfl) rfl
def aw_v11 : SV := (.tup [(.pagg [(.int Go.IntKind.i64 1), (.str [97]), (.int Go.IntKind.i64 0), (.int Go.IntKind.i64 0)]), (.p (.int Go.IntKind.i64 0))])
def aw_e38 : Rec := ⟨⟨0, 2⟩, 14, [(.p (.str [97, 45, 62, 98, 59]))], [], [[], [(7, [])]], (aw_v11, [], [[], [(7, [])]])⟩
theorem aw_c38 : aw_e38.ok (T aw_ps7) := Rec.run (l := []) trivial 64 (vf := vf14) rfl (by kernel_rfl) rfl
def aw_a12 : List SV := [(.p (.str [118, 105, 97, 32, 51, 58, 32, 97, 45, 62, 98, 59])), (.p (.int Go.IntKind.i64 8))]
def aw_e39 : Rec := ⟨⟨0, 2⟩, 13, aw_a12, [], [[], [(7, [])]], ((.p (.int Go.IntKind.i64 8)), [], [[], [(7, [])]])⟩
theorem aw_c39 : aw_e39.ok (T aw_ps7) := Rec.run (l := []) trivial 64 (vf := vf13) rfl (by kernel_rfl) rfl
def aw_v13 : SV := (.tup [(.pagg [(.int Go.IntKind.i64 3), (.str [45, 62]), (.int Go.IntKind.i64 0), (.int Go.IntKind.i64 0)]), (.p (.int Go.IntKind.i64 0))])
def aw_e40 : Rec := ⟨⟨0, 2⟩, 14, [(.p (.str [45, 62, 98, 59]))], [], [[], [(7, [])]], (aw_v13, [], [[], [(7, [])]])⟩
theorem aw_c40 : aw_e40.ok (T aw_ps7) := Rec.run (l := []) trivial 64 (vf := vf14) rfl (by kernel_rfl) rfl
def aw_a14 : List SV := [(.p (.str [118, 105, 97, 32, 51, 58, 32, 97, 45, 62, 98, 59])), (.p (.int Go.IntKind.i64 10))]
def aw_e41 : Rec := ⟨⟨0, 2⟩, 13, aw_a14, [], [[], [(7, [])]], ((.p (.int Go.IntKind.i64 10)), [], [[], [(7, [])]])⟩
theorem aw_c41 : aw_e41.ok (T aw_ps7) := Rec.run (l := []) trivial 64 (vf := vf13) rfl (by kernel_rfl) rfl
def aw_v15 : SV := (.tup [(.pagg [(.int Go.IntKind.i64 1), (.str [98]), (.int Go.IntKind.i64 0), (.int Go.IntKind.i64 0)]), (.p (.int Go.IntKind.i64 0))])
def aw_e42 : Rec := ⟨⟨0, 2⟩, 14, [(.p (.str [98, 59]))], [], [[], [(7, [])]], (aw_v15, [], [[], [(7, [])]])⟩
theorem aw_c42 : aw_e42.ok (T aw_ps7) := Rec.run (l := []) trivial 64 (vf := vf14) rfl (by kernel_rfl) rfl
def aw_a16 : List SV := [(.p (.str [118, 105, 97, 32, 51, 58, 32, 97, 45, 62, 98, 59])), (.p (.int Go.IntKind.i64 11))]
def aw_e43 : Rec := ⟨⟨0, 2⟩, 13, aw_a16, [], [[], [(7, [])]], ((.p (.int Go.IntKind.i64 11)), [], [[], [(7, [])]])⟩
theorem aw_c43 : aw_e43.ok (T aw_ps7) := Rec.run (l := []) trivial 64 (vf := vf13) rfl (by kernel_rfl) rfl
def aw_v17 : SV := (.tup [(.pagg [(.int Go.IntKind.i64 3), (.str [59]), (.int Go.IntKind.i64 0), (.int Go.IntKind.i64 0)]), (.p (.int Go.IntKind.i64 0))])
def aw_e44 : Rec := ⟨⟨0, 2⟩, 14, [(.p (.str [59]))], [], [[], [(7, [])]], (aw_v17, [], [[], [(7, [])]])⟩
theorem aw_c44 : aw_e44.ok (T aw_ps7) := Rec.run (l := []) trivial 64 (vf := vf14) rfl (by kernel_rfl) rfl
def aw_a18 : List SV := [(.p (.str [118, 105, 97, 32, 51, 58, 32, 97, 45, 62, 98, 59])), (.p (.int Go.IntKind.i64 12))]
def aw_e45 : Rec := ⟨⟨0, 2⟩, 13, aw_a18, [], [[], [(7, [])]], ((.p (.int Go.IntKind.i64 12)), [], [[], [(7, [])]])⟩
theorem aw_c45 : aw_e45.ok (T aw_ps7) := Rec.run (l := []) trivial 64 (vf := vf13) rfl (by kernel_rfl) rfl
def aw_v19 : SV := (.tup [(.own 4 [[(.int Go.IntKind.i64 1), (.str [118, 105, 97]), (.int Go.IntKind.i64 0), (.int Go.IntKind.i64 0)], [(.int Go.IntKind.i64 2), (.str [51]), (.int Go.IntKind.i64 3), (.int Go.IntKind.i64 4)], [(.int Go.IntKind.i64 3), (.str [58]), (.int Go.IntKind.i64 0), (.int Go.IntKind.i64 5)], [(.int Go.IntKind.i64 1), (.str [97]), (.int Go.IntKind.i64 0), (.int Go.IntKind.i64 7)], [(.int Go.IntKind.i64 3), (.str [45, 62]), (.int Go.IntKind.i64 0), (.int Go.IntKind.i64 8)], [(.int Go.IntKind.i64 1), (.str [98]), (.int Go.IntKind.i64 0), (.int Go.IntKind.i64 10)], [(.int Go.IntKind.i64 3), (.str [59]), (.int Go.IntKind.i64 0), (.int Go.IntKind.i64 11)]]), (.p (.int Go.IntKind.i64 0)), (.p (.int Go.IntKind.i64 0))])
def aw_e46 : Rec := ⟨⟨0, 1⟩, 7, aw_a0, [], [[]], (aw_v19, [], [[]])⟩
theorem aw_c46 : aw_e46.ok (T aw_ps7) := Rec.run (l := [aw_e31, aw_e32, aw_e33, aw_e34, aw_e35, aw_e36, aw_e37, aw_e38, aw_e39, aw_e40, aw_e41, aw_e42, aw_e43, aw_e44, aw_e45]) ⟨aw_c31, ⟨aw_c32, ⟨aw_c33, ⟨aw_c34, ⟨aw_c35, ⟨aw_c36, ⟨aw_c37, ⟨aw_c38, ⟨aw_c39, ⟨aw_c40, ⟨aw_c41, ⟨aw_c42, ⟨aw_c43, ⟨aw_c44, ⟨aw_c45, trivial⟩⟩⟩⟩⟩⟩⟩⟩⟩⟩⟩⟩⟩⟩⟩ 64 (vf := vf7) rfl (by kernel_rfl) rfl
def aw_e47 : Rec := ⟨⟨0, 0⟩, 10, [], [], [], ((.p (.bool true)), [], [])⟩
theorem aw_c47 : aw_e47.ok (T aw_ps7) := Rec.run (l := [aw_e46]) ⟨aw_c46, trivial⟩ 64 (vf := vf10) rfl (by kernel_rfl) rfl
/-- the outermost call, as a function by hand -/
def aw_q : List Rec := [aw_e47]
theorem aw_prim : QPrimOk Try.prog 10 (qL aw_q) := pureQ aw_ok7 (qL_ok (T := T aw_ps7) (f := 10) (l := aw_q) ⟨⟨rfl, rfl, rfl, rfl, rfl, rfl, aw_c47⟩, trivial⟩)
end Go.Proofs.Ytkkainkhjimcmaa.L
