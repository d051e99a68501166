import Derived.Test.YthlhnfbfibjfjaaVG
import Derived.Test.YthlhnfbfibjfjaaAwake
/-
Functions run on values that are not known, each by itself. Printed by program.
-/
namespace Go.Proofs.Ythlhnfbfibjfjaa.L
open Go Go.VM
set_option linter.unusedVariables false
set_option maxRecDepth 100000
set_option maxHeartbeats 4000000
theorem aw_true : QPrimOk Try.prog 12 qTrue := qTrue_ok aw_prim (by kernel_rfl)
def n0 : List (Nat × Prim) := [(12, .q qTrue)]
theorem n0_ok : PrimOk Try.prog (T n0) := prims_q aw_true prims_nil
theorem sem10_0 (F : Fns) (fns) (a0 a1 a2 a3 a4 a5 a6 a7 a8 a9 a10 a11 a12 a13 a14 a15 : PV) : @S.fnS stdA (T' fns (look n0)) (fun _ _ _ _ _ => none) (fun _ _ => none) ⟨0, 0⟩ vf10 [.pagg [a0, a1, a2, a3, a4, a5, a6, a7, a8, a9, a10, a11, a12, a13, a14, a15]] [] [] = some ((SV.pagg [a0, a1, a2, a3, a4, a5, a6, a7, a8, a9, a10, a11, a12, a13, a14, a15], [], []), []) := by
  cbv
def q10 : List SV → Option SV
  | [.pagg [a0, a1, a2, a3, a4, a5, a6, a7, a8, a9, a10, a11, a12, a13, a14, a15]] => some (SV.pagg [a0, a1, a2, a3, a4, a5, a6, a7, a8, a9, a10, a11, a12, a13, a14, a15])
  | _ => none
theorem p10 : QPrimOk Try.prog 10 q10 := pureQ n0_ok fun args v e => by
    unfold q10 at e; split at e
    · simp only [Option.some.injEq] at e; subst e
      exact ⟨rfl, rfl, _, _, CallsTo.fn okC_none okL_none (vf := vf10) rfl (sem10_0 stdF (look fl) _ _ _ _ _ _ _ _ _ _ _ _ _ _ _ _)⟩
    · simp at e
def n1 : List (Nat × Prim) := (10, .q q10) :: n0
theorem n1_ok : PrimOk Try.prog (T n1) := prims_q p10 n0_ok
theorem sem9_0 (F : Fns) (fns) (a0 a1 a2 a3 a4 a5 a6 a7 a8 a9 a10 a11 a12 a13 a14 a15 : PV) (i : Int) : @S.fnS stdA (T' fns (look n1)) (fun _ _ _ _ _ => none) (fun _ _ => none) ⟨0, 0⟩ vf9 [.nilp, .pagg [a0, a1, a2, a3, a4, a5, a6, a7, a8, a9, a10, a11, a12, a13, a14, a15], .p (.int .i64 i)] [] [] = some ((SV.p (PV.int IntKind.i64 11), [], []), []) := by
  cbv
def q9 : List SV → Option SV
  | [.nilp, .pagg [a0, a1, a2, a3, a4, a5, a6, a7, a8, a9, a10, a11, a12, a13, a14, a15], .p (.int .i64 i)] => some (SV.p (PV.int IntKind.i64 11))
  | _ => none
theorem p9 : QPrimOk Try.prog 9 q9 := pureQ n1_ok fun args v e => by
    unfold q9 at e; split at e
    · simp only [Option.some.injEq] at e; subst e
      exact ⟨rfl, rfl, _, _, CallsTo.fn okC_none okL_none (vf := vf9) rfl (sem9_0 stdF (look fl) _ _ _ _ _ _ _ _ _ _ _ _ _ _ _ _ _)⟩
    · simp at e
def n2 : List (Nat × Prim) := (9, .q q9) :: n1
theorem n2_ok : PrimOk Try.prog (T n2) := prims_q p9 n1_ok
theorem sem13_0 (F : Fns) (fns) (i t n : Int) (k0 k1 k2 k3 k4 k5 k6 : PV) : @S.fnS stdA (T' fns (look n2)) (fun _ _ _ _ _ => none) (fun _ _ => none) ⟨0, 0⟩ vf13 [.nilp, .p (.int .i64 i), .p (.int .i64 t), .pagg [k0, k1, k2, k3, k4, k5, k6], .p (.int .i64 n)] [] [] = some ((SV.tup [SV.pagg [PV.int IntKind.i64 0, PV.int IntKind.u64 0, PV.int IntKind.u64 0, PV.int IntKind.u32 0, PV.int IntKind.u32 0, PV.int IntKind.i64 0, PV.int IntKind.i64 0, PV.int IntKind.i64 0, PV.bool false, PV.bool false, PV.int IntKind.i64 0, PV.int IntKind.u32 0, PV.int IntKind.i64 0, PV.int IntKind.i64 0, PV.int IntKind.i64 0, PV.int IntKind.i64 0], SV.p (PV.bool false)], [], []), []) := by
  cbv
def q13 : List SV → Option SV
  | [.nilp, .p (.int .i64 i), .p (.int .i64 t), .pagg [k0, k1, k2, k3, k4, k5, k6], .p (.int .i64 n)] => some (SV.tup [SV.pagg [PV.int IntKind.i64 0, PV.int IntKind.u64 0, PV.int IntKind.u64 0, PV.int IntKind.u32 0, PV.int IntKind.u32 0, PV.int IntKind.i64 0, PV.int IntKind.i64 0, PV.int IntKind.i64 0, PV.bool false, PV.bool false, PV.int IntKind.i64 0, PV.int IntKind.u32 0, PV.int IntKind.i64 0, PV.int IntKind.i64 0, PV.int IntKind.i64 0, PV.int IntKind.i64 0], SV.p (PV.bool false)])
  | _ => none
theorem p13 : QPrimOk Try.prog 13 q13 := pureQ n2_ok fun args v e => by
    unfold q13 at e; split at e
    · simp only [Option.some.injEq] at e; subst e
      exact ⟨rfl, rfl, _, _, CallsTo.fn okC_none okL_none (vf := vf13) rfl (sem13_0 stdF (look fl) _ _ _ _ _ _ _ _ _ _)⟩
    · simp at e
def n3 : List (Nat × Prim) := (13, .q q13) :: n2
theorem n3_ok : PrimOk Try.prog (T n3) := prims_q p13 n2_ok
theorem sem14_0 (F : Fns) (fns)  : @S.fnS stdA (T' fns (look n3)) (fun _ _ _ _ _ => none) (fun _ _ => none) ⟨0, 0⟩ vf14 [.nilp] [] [] = some ((SV.p PV.nils, [], []), []) := by
  cbv
def q14 : List SV → Option SV
  | [.nilp] => some (SV.p PV.nils)
  | _ => none
theorem p14 : QPrimOk Try.prog 14 q14 := pureQ n3_ok fun args v e => by
    unfold q14 at e; split at e
    · simp only [Option.some.injEq] at e; subst e
      exact ⟨rfl, rfl, _, _, CallsTo.fn okC_none okL_none (vf := vf14) rfl (sem14_0 stdF (look fl))⟩
    · simp at e
def n4 : List (Nat × Prim) := (14, .q q14) :: n3
theorem n4_ok : PrimOk Try.prog (T n4) := prims_q p14 n3_ok
theorem sem17_0 (F : Fns) (fns)  : @S.fnS stdA (T' fns (look n4)) (fun _ _ _ _ _ => none) (fun _ _ => none) ⟨0, 0⟩ vf17 [.nilp] [] [] = some ((SV.p (PV.int IntKind.i64 0), [], []), []) := by
  cbv
def q17 : List SV → Option SV
  | [.nilp] => some (SV.p (PV.int IntKind.i64 0))
  | _ => none
theorem p17 : QPrimOk Try.prog 17 q17 := pureQ n4_ok fun args v e => by
    unfold q17 at e; split at e
    · simp only [Option.some.injEq] at e; subst e
      exact ⟨rfl, rfl, _, _, CallsTo.fn okC_none okL_none (vf := vf17) rfl (sem17_0 stdF (look fl))⟩
    · simp at e
def n5 : List (Nat × Prim) := (17, .q q17) :: n4
theorem n5_ok : PrimOk Try.prog (T n5) := prims_q p17 n4_ok
def or36 : CallF := fun ba f args hp out =>
  match ba, f, args, hp, out with
  | ⟨0, 0⟩, 36, [.nilp, .fn m [.ptr ⟨.st 0 3, 0, none⟩]], [], [fr] => some (.p .nils, [], [fr])
  | ⟨0, 0⟩, 36, [.nilp, .fn m []], [], [fr] => some (.p .nils, [], [fr])
  | _, _, _, _, _ => none
theorem sem36a_n5 (F : Fns) (fns) (m : Nat) (fr : List (Nat × VM.Obj)) : @S.fnS stdA (T' fns (look n5)) (fun _ _ _ _ _ => none) (fun _ _ => none) ⟨0, 0⟩ vf36 [.nilp, .fn m [.ptr ⟨.st 0 3, 0, none⟩]] [] [fr] = some ((SV.p PV.nils, [], [fr]), [fr]) := by
  cbv
theorem sem36b_n5 (F : Fns) (fns) (m : Nat) (fr : List (Nat × VM.Obj)) : @S.fnS stdA (T' fns (look n5)) (fun _ _ _ _ _ => none) (fun _ _ => none) ⟨0, 0⟩ vf36 [.nilp, .fn m []] [] [fr] = some ((SV.p PV.nils, [], [fr]), [fr]) := by
  cbv
theorem or36_n5 : OkC (T n5) or36 := by
  intro ba f args hp out r h
  unfold or36 at h
  split at h
  · simp only [Option.some.injEq] at h; subst h
    exact CallsTo.fn okC_none okL_none (vf := vf36) rfl (sem36a_n5 stdF (look fl) _ _)
  · simp only [Option.some.injEq] at h; subst h
    exact CallsTo.fn okC_none okL_none (vf := vf36) rfl (sem36b_n5 stdF (look fl) _ _)
  · simp at h
theorem sem16_0 (F : Fns) (fns) (i : Int) : @S.fnS stdA (T' fns (look n5)) or36 (fun _ _ => none) ⟨0, 0⟩ vf16 [.nilp, .p (.int .i64 i)] [] [] = some ((SV.p PV.nils, [], []), []) := by
  cbv
def q16 : List SV → Option SV
  | [.nilp, .p (.int .i64 i)] => some (SV.p PV.nils)
  | _ => none
theorem p16 : QPrimOk Try.prog 16 q16 := pureQ n5_ok fun args v e => by
    unfold q16 at e; split at e
    · simp only [Option.some.injEq] at e; subst e
      exact ⟨rfl, rfl, _, _, CallsTo.fn or36_n5 okL_none (vf := vf16) rfl (sem16_0 stdF (look fl) _)⟩
    · simp at e
def n6 : List (Nat × Prim) := (16, .q q16) :: n5
theorem n6_ok : PrimOk Try.prog (T n6) := prims_q p16 n5_ok
theorem sem36a_n6 (F : Fns) (fns) (m : Nat) (fr : List (Nat × VM.Obj)) : @S.fnS stdA (T' fns (look n6)) (fun _ _ _ _ _ => none) (fun _ _ => none) ⟨0, 0⟩ vf36 [.nilp, .fn m [.ptr ⟨.st 0 3, 0, none⟩]] [] [fr] = some ((SV.p PV.nils, [], [fr]), [fr]) := by
  cbv
theorem sem36b_n6 (F : Fns) (fns) (m : Nat) (fr : List (Nat × VM.Obj)) : @S.fnS stdA (T' fns (look n6)) (fun _ _ _ _ _ => none) (fun _ _ => none) ⟨0, 0⟩ vf36 [.nilp, .fn m []] [] [fr] = some ((SV.p PV.nils, [], [fr]), [fr]) := by
  cbv
theorem or36_n6 : OkC (T n6) or36 := by
  intro ba f args hp out r h
  unfold or36 at h
  split at h
  · simp only [Option.some.injEq] at h; subst h
    exact CallsTo.fn okC_none okL_none (vf := vf36) rfl (sem36a_n6 stdF (look fl) _ _)
  · simp only [Option.some.injEq] at h; subst h
    exact CallsTo.fn okC_none okL_none (vf := vf36) rfl (sem36b_n6 stdF (look fl) _ _)
  · simp at h
theorem sem21_0 (F : Fns) (fns)  : @S.fnS stdA (T' fns (look n6)) or36 (fun _ _ => none) ⟨0, 0⟩ vf21 [.nilp] [] [] = some ((SV.p PV.nils, [], []), []) := by
  cbv
def q21 : List SV → Option SV
  | [.nilp] => some (SV.p PV.nils)
  | _ => none
theorem p21 : QPrimOk Try.prog 21 q21 := pureQ n6_ok fun args v e => by
    unfold q21 at e; split at e
    · simp only [Option.some.injEq] at e; subst e
      exact ⟨rfl, rfl, _, _, CallsTo.fn or36_n6 okL_none (vf := vf21) rfl (sem21_0 stdF (look fl))⟩
    · simp at e
def n7 : List (Nat × Prim) := (21, .q q21) :: n6
theorem n7_ok : PrimOk Try.prog (T n7) := prims_q p21 n6_ok
theorem sem36a_n7 (F : Fns) (fns) (m : Nat) (fr : List (Nat × VM.Obj)) : @S.fnS stdA (T' fns (look n7)) (fun _ _ _ _ _ => none) (fun _ _ => none) ⟨0, 0⟩ vf36 [.nilp, .fn m [.ptr ⟨.st 0 3, 0, none⟩]] [] [fr] = some ((SV.p PV.nils, [], [fr]), [fr]) := by
  cbv
theorem sem36b_n7 (F : Fns) (fns) (m : Nat) (fr : List (Nat × VM.Obj)) : @S.fnS stdA (T' fns (look n7)) (fun _ _ _ _ _ => none) (fun _ _ => none) ⟨0, 0⟩ vf36 [.nilp, .fn m []] [] [fr] = some ((SV.p PV.nils, [], [fr]), [fr]) := by
  cbv
theorem or36_n7 : OkC (T n7) or36 := by
  intro ba f args hp out r h
  unfold or36 at h
  split at h
  · simp only [Option.some.injEq] at h; subst h
    exact CallsTo.fn okC_none okL_none (vf := vf36) rfl (sem36a_n7 stdF (look fl) _ _)
  · simp only [Option.some.injEq] at h; subst h
    exact CallsTo.fn okC_none okL_none (vf := vf36) rfl (sem36b_n7 stdF (look fl) _ _)
  · simp at h
theorem sem22_0 (F : Fns) (fns) (i : Int) : @S.fnS stdA (T' fns (look n7)) or36 (fun _ _ => none) ⟨0, 0⟩ vf22 [.nilp, .p (.int .i64 i)] [] [] = some ((SV.p PV.nils, [], []), []) := by
  cbv
def q22 : List SV → Option SV
  | [.nilp, .p (.int .i64 i)] => some (SV.p PV.nils)
  | _ => none
theorem p22 : QPrimOk Try.prog 22 q22 := pureQ n7_ok fun args v e => by
    unfold q22 at e; split at e
    · simp only [Option.some.injEq] at e; subst e
      exact ⟨rfl, rfl, _, _, CallsTo.fn or36_n7 okL_none (vf := vf22) rfl (sem22_0 stdF (look fl) _)⟩
    · simp at e
def n8 : List (Nat × Prim) := (22, .q q22) :: n7
theorem n8_ok : PrimOk Try.prog (T n8) := prims_q p22 n7_ok
theorem sem7 (fns)  (a0 : Int) (a1 : Int) (a2 : Int) (a3 : Int) (a4 : Int) (a5 : Int) (a6 : Int) (a7 : Int) (a8 : Bool) (a9 : Bool) (a10 : Int) (a11 : Int) (a12 : Int) (a13 : Int) (a14 : Int) (a15 : Int) : (@S.fnS stdA (T' fns (look n8)) (fun _ _ _ _ _ => none) (fun _ _ => none) ⟨0, 0⟩ vf7 [.pagg [.int .i64 a0, .int .u64 a1, .int .u64 a2, .int .u32 a3, .int .u32 a4, .int .i64 a5, .int .i64 a6, .int .i64 a7, .bool a8, .bool a9, .int .i64 a10, .int .u32 a11, .int .i64 a12, .int .i64 a13, .int .i64 a14, .int .i64 a15]] [] []).map (fun x => (x.1.1, x.2)) = some (.p (.bool true), []) := by
  cbv
theorem hrun7 : ∀ args, argsOk [(true, [Kd.int IntKind.i64, Kd.int IntKind.u64, Kd.int IntKind.u64, Kd.int IntKind.u32, Kd.int IntKind.u32, Kd.int IntKind.i64, Kd.int IntKind.i64, Kd.int IntKind.i64, Kd.bool, Kd.bool, Kd.int IntKind.i64, Kd.int IntKind.u32, Kd.int IntKind.i64, Kd.int IntKind.i64, Kd.int IntKind.i64, Kd.int IntKind.i64])] args → ∃ k hp' out', callN (T n8) k ⟨0, 0⟩ 7 args [] [] = some (.p (.bool true), hp', out') := by
  intro args h
  obtain ⟨v0, r0, rfl, g0, h⟩ := argsOk_cons h
  obtain rfl := argsOk_nil h
  obtain ⟨cs0, rfl, t⟩ := argOk_agg g0
  obtain ⟨c0, m0, rfl, q0, t⟩ := kdL_cons t
  obtain ⟨c1, m1, rfl, q1, t⟩ := kdL_cons t
  obtain ⟨c2, m2, rfl, q2, t⟩ := kdL_cons t
  obtain ⟨c3, m3, rfl, q3, t⟩ := kdL_cons t
  obtain ⟨c4, m4, rfl, q4, t⟩ := kdL_cons t
  obtain ⟨c5, m5, rfl, q5, t⟩ := kdL_cons t
  obtain ⟨c6, m6, rfl, q6, t⟩ := kdL_cons t
  obtain ⟨c7, m7, rfl, q7, t⟩ := kdL_cons t
  obtain ⟨c8, m8, rfl, q8, t⟩ := kdL_cons t
  obtain ⟨c9, m9, rfl, q9, t⟩ := kdL_cons t
  obtain ⟨c10, m10, rfl, q10, t⟩ := kdL_cons t
  obtain ⟨c11, m11, rfl, q11, t⟩ := kdL_cons t
  obtain ⟨c12, m12, rfl, q12, t⟩ := kdL_cons t
  obtain ⟨c13, m13, rfl, q13, t⟩ := kdL_cons t
  obtain ⟨c14, m14, rfl, q14, t⟩ := kdL_cons t
  obtain ⟨c15, m15, rfl, q15, t⟩ := kdL_cons t
  obtain rfl := kdL_nil t
  obtain ⟨a0, rfl, b0⟩ := kd1_int q0
  obtain ⟨a1, rfl, b1⟩ := kd1_int q1
  obtain ⟨a2, rfl, b2⟩ := kd1_int q2
  obtain ⟨a3, rfl, b3⟩ := kd1_int q3
  obtain ⟨a4, rfl, b4⟩ := kd1_int q4
  obtain ⟨a5, rfl, b5⟩ := kd1_int q5
  obtain ⟨a6, rfl, b6⟩ := kd1_int q6
  obtain ⟨a7, rfl, b7⟩ := kd1_int q7
  obtain ⟨a8, rfl⟩ := kd1_bool q8
  obtain ⟨a9, rfl⟩ := kd1_bool q9
  obtain ⟨a10, rfl, b10⟩ := kd1_int q10
  obtain ⟨a11, rfl, b11⟩ := kd1_int q11
  obtain ⟨a12, rfl, b12⟩ := kd1_int q12
  obtain ⟨a13, rfl, b13⟩ := kd1_int q13
  obtain ⟨a14, rfl, b14⟩ := kd1_int q14
  obtain ⟨a15, rfl, b15⟩ := kd1_int q15
  exact (runs_of okC_none okL_none (vf := vf7) rfl (sem7 (look fl) a0 a1 a2 a3 a4 a5 a6 a7 a8 a9 a10 a11 a12 a13 a14 a15))
end Go.Proofs.Ythlhnfbfibjfjaa.L
