import Derived.Test.YtidlbomanfkibaaVG
import Derived.Test.YtidlbomanfkibaaAwake
/-
Functions run on values that are not known, each by itself. Printed by program.
-/
namespace Go.Proofs.Ytidlbomanfkibaa.L
open Go Go.VM
set_option linter.unusedVariables false
set_option maxRecDepth 100000
set_option maxHeartbeats 4000000
theorem aw_true : QPrimOk Try.prog 13 qTrue := qTrue_ok aw_prim (by kernel_rfl)
def n0 : List (Nat × Prim) := [(13, .q qTrue)]
theorem n0_ok : PrimOk Try.prog (T n0) := prims_q aw_true prims_nil
/-- what is left of a path that is too long -/
def cutE (es : List (List PV)) : List (List PV) := if es.length ≤ 10 then es else (es.drop 0).take 10
theorem sem20_0 (F : Fns) (fns) (a0 a1 a2 a3 a4 a5 a6 a7 a8 a9 a10 a11 a12 a13 a14 a15 a16 a17 a18 a19 : PV) : @S.fnS (symA F) (T' fns (look n0)) (fun _ _ _ _ _ => none) (fun _ _ => none) ⟨0, 0⟩ vf20 [.pagg [a0, a1, a2, a3, a4, a5, a6, a7, a8, a9, a10, a11, a12, a13, a14, a15, a16, a17, a18, a19]] [] [] = some ((SV.pagg [a0, a1, a2, a3, a4, a5, a6, a7, a8, a9, a10, a11, a12, a13, a14, a15, a16, a17, a18, a19], [], []), []) := by
  cbv
def q20 : List SV → Option SV
  | [.pagg [a0, a1, a2, a3, a4, a5, a6, a7, a8, a9, a10, a11, a12, a13, a14, a15, a16, a17, a18, a19]] => some (SV.pagg [a0, a1, a2, a3, a4, a5, a6, a7, a8, a9, a10, a11, a12, a13, a14, a15, a16, a17, a18, a19])
  | _ => none
theorem p20 : QPrimOk Try.prog 20 q20 := pureQ n0_ok fun args v e => by
    unfold q20 at e; split at e
    · simp only [Option.some.injEq] at e; subst e
      exact ⟨rfl, rfl, _, _, CallsTo.fn okC_none okL_none (vf := vf20) rfl (by rw [← symA_std]; exact sem20_0 stdF (look fl) _ _ _ _ _ _ _ _ _ _ _ _ _ _ _ _ _ _ _ _)⟩
    · simp at e
def n1 : List (Nat × Prim) := (20, .q q20) :: n0
theorem n1_ok : PrimOk Try.prog (T n1) := prims_q p20 n0_ok
theorem sem19_0 (F : Fns) (fns) (a0 a1 a2 a3 a4 a5 a6 a7 a8 a9 a10 a11 a12 a13 a14 a15 a16 a17 a18 a19 : PV) : @S.fnS (symA F) (T' fns (look n1)) (fun _ _ _ _ _ => none) (fun _ _ => none) ⟨0, 0⟩ vf19 [.nilp, .pagg [a0, a1, a2, a3, a4, a5, a6, a7, a8, a9, a10, a11, a12, a13, a14, a15, a16, a17, a18, a19]] [] [] = some ((SV.tup [SV.pagg [PV.int IntKind.u32 0, PV.int IntKind.u32 0, PV.int IntKind.u64 0, PV.int IntKind.u64 0, PV.int IntKind.u32 0, PV.int IntKind.u32 0, PV.int IntKind.i64 0, PV.int IntKind.i64 0, PV.int IntKind.i64 0, PV.int IntKind.i64 0, PV.int IntKind.i64 0, PV.int IntKind.i64 0, PV.int IntKind.i64 0, PV.str [], PV.str [], PV.str [], PV.str [], PV.int IntKind.i64 0, PV.int IntKind.i64 0, PV.nils], SV.p (PV.int IntKind.i64 11)], [], []), []) := by
  cbv
def q19 : List SV → Option SV
  | [.nilp, .pagg [a0, a1, a2, a3, a4, a5, a6, a7, a8, a9, a10, a11, a12, a13, a14, a15, a16, a17, a18, a19]] => some (SV.tup [SV.pagg [PV.int IntKind.u32 0, PV.int IntKind.u32 0, PV.int IntKind.u64 0, PV.int IntKind.u64 0, PV.int IntKind.u32 0, PV.int IntKind.u32 0, PV.int IntKind.i64 0, PV.int IntKind.i64 0, PV.int IntKind.i64 0, PV.int IntKind.i64 0, PV.int IntKind.i64 0, PV.int IntKind.i64 0, PV.int IntKind.i64 0, PV.str [], PV.str [], PV.str [], PV.str [], PV.int IntKind.i64 0, PV.int IntKind.i64 0, PV.nils], SV.p (PV.int IntKind.i64 11)])
  | _ => none
theorem p19 : QPrimOk Try.prog 19 q19 := pureQ n1_ok fun args v e => by
    unfold q19 at e; split at e
    · simp only [Option.some.injEq] at e; subst e
      exact ⟨rfl, rfl, _, _, CallsTo.fn okC_none okL_none (vf := vf19) rfl (by rw [← symA_std]; exact sem19_0 stdF (look fl) _ _ _ _ _ _ _ _ _ _ _ _ _ _ _ _ _ _ _ _)⟩
    · simp at e
def n2 : List (Nat × Prim) := (19, .q q19) :: n1
theorem n2_ok : PrimOk Try.prog (T n2) := prims_q p19 n1_ok
theorem sem11_0 (F : Fns) (fns)  : @S.fnS (symA F) (T' fns (look n2)) (fun _ _ _ _ _ => none) (fun _ _ => none) ⟨0, 0⟩ vf11 [.nilp] [] [] = some ((SV.p PV.nils, [], []), []) := by
  cbv
def q11 : List SV → Option SV
  | [.nilp] => some (SV.p PV.nils)
  | _ => none
theorem p11 : QPrimOk Try.prog 11 q11 := pureQ n2_ok fun args v e => by
    unfold q11 at e; split at e
    · simp only [Option.some.injEq] at e; subst e
      exact ⟨rfl, rfl, _, _, CallsTo.fn okC_none okL_none (vf := vf11) rfl (by rw [← symA_std]; exact sem11_0 stdF (look fl) )⟩
    · simp at e
def n3 : List (Nat × Prim) := (11, .q q11) :: n2
theorem n3_ok : PrimOk Try.prog (T n3) := prims_q p11 n2_ok
theorem sem12_0 (F : Fns) (fns)  : @S.fnS (symA F) (T' fns (look n3)) (fun _ _ _ _ _ => none) (fun _ _ => none) ⟨0, 0⟩ vf12 [.nilp] [] [] = some ((SV.p (PV.int IntKind.u32 0), [], []), []) := by
  cbv
def q12 : List SV → Option SV
  | [.nilp] => some (SV.p (PV.int IntKind.u32 0))
  | _ => none
theorem p12 : QPrimOk Try.prog 12 q12 := pureQ n3_ok fun args v e => by
    unfold q12 at e; split at e
    · simp only [Option.some.injEq] at e; subst e
      exact ⟨rfl, rfl, _, _, CallsTo.fn okC_none okL_none (vf := vf12) rfl (by rw [← symA_std]; exact sem12_0 stdF (look fl) )⟩
    · simp at e
def n4 : List (Nat × Prim) := (12, .q q12) :: n3
theorem n4_ok : PrimOk Try.prog (T n4) := prims_q p12 n3_ok
theorem sem22_0 (F : Fns) (fns) (i : PV) : @S.fnS (symA F) (T' fns (look n4)) (fun _ _ _ _ _ => none) (fun _ _ => none) ⟨0, 0⟩ vf22 [.nilp, .p i] [] [] = some ((SV.tup [SV.pagg [PV.int IntKind.u32 0, PV.int IntKind.u32 0, PV.int IntKind.u64 0, PV.int IntKind.u64 0, PV.int IntKind.u32 0, PV.int IntKind.u32 0, PV.int IntKind.i64 0, PV.int IntKind.i64 0, PV.int IntKind.i64 0, PV.int IntKind.i64 0, PV.int IntKind.i64 0, PV.int IntKind.i64 0, PV.int IntKind.i64 0, PV.str [], PV.str [], PV.str [], PV.str [], PV.int IntKind.i64 0, PV.int IntKind.i64 0, PV.nils], SV.p (PV.bool false)], [], []), []) := by
  cbv
def q22 : List SV → Option SV
  | [.nilp, .p i] => some (SV.tup [SV.pagg [PV.int IntKind.u32 0, PV.int IntKind.u32 0, PV.int IntKind.u64 0, PV.int IntKind.u64 0, PV.int IntKind.u32 0, PV.int IntKind.u32 0, PV.int IntKind.i64 0, PV.int IntKind.i64 0, PV.int IntKind.i64 0, PV.int IntKind.i64 0, PV.int IntKind.i64 0, PV.int IntKind.i64 0, PV.int IntKind.i64 0, PV.str [], PV.str [], PV.str [], PV.str [], PV.int IntKind.i64 0, PV.int IntKind.i64 0, PV.nils], SV.p (PV.bool false)])
  | _ => none
theorem p22 : QPrimOk Try.prog 22 q22 := pureQ n4_ok fun args v e => by
    unfold q22 at e; split at e
    · simp only [Option.some.injEq] at e; subst e
      exact ⟨rfl, rfl, _, _, CallsTo.fn okC_none okL_none (vf := vf22) rfl (by rw [← symA_std]; exact sem22_0 stdF (look fl) _)⟩
    · simp at e
def n5 : List (Nat × Prim) := (22, .q q22) :: n4
theorem n5_ok : PrimOk Try.prog (T n5) := prims_q p22 n4_ok
theorem sem23_0 (F : Fns) (fns) (i : PV) : @S.fnS (symA F) (T' fns (look n5)) (fun _ _ _ _ _ => none) (fun _ _ => none) ⟨0, 0⟩ vf23 [.nilp, .p i] [] [] = some ((SV.p PV.nils, [], []), []) := by
  cbv
def q23 : List SV → Option SV
  | [.nilp, .p i] => some (SV.p PV.nils)
  | _ => none
theorem p23 : QPrimOk Try.prog 23 q23 := pureQ n5_ok fun args v e => by
    unfold q23 at e; split at e
    · simp only [Option.some.injEq] at e; subst e
      exact ⟨rfl, rfl, _, _, CallsTo.fn okC_none okL_none (vf := vf23) rfl (by rw [← symA_std]; exact sem23_0 stdF (look fl) _)⟩
    · simp at e
def n6 : List (Nat × Prim) := (23, .q q23) :: n5
theorem n6_ok : PrimOk Try.prog (T n6) := prims_q p23 n5_ok
theorem sem38_0 (F : Fns) (fns) (k0 k1 k2 k3 k4 k5 k6 : PV) : @S.fnS (symA F) (T' fns (look n6)) (fun _ _ _ _ _ => none) (fun _ _ => none) ⟨0, 0⟩ vf38 [.pagg [k0, k1, k2, k3, k4, k5, k6]] [] [] = some ((SV.pagg [k1, k0, k3, k2, k4, k6, k5], [], []), []) := by
  cbv
def q38 : List SV → Option SV
  | [.pagg [k0, k1, k2, k3, k4, k5, k6]] => some (SV.pagg [k1, k0, k3, k2, k4, k6, k5])
  | _ => none
theorem p38 : QPrimOk Try.prog 38 q38 := pureQ n6_ok fun args v e => by
    unfold q38 at e; split at e
    · simp only [Option.some.injEq] at e; subst e
      exact ⟨rfl, rfl, _, _, CallsTo.fn okC_none okL_none (vf := vf38) rfl (by rw [← symA_std]; exact sem38_0 stdF (look fl) _ _ _ _ _ _ _)⟩
    · simp at e
def n7 : List (Nat × Prim) := (38, .q q38) :: n6
theorem n7_ok : PrimOk Try.prog (T n7) := prims_q p38 n6_ok
theorem sem44 (F : Fns) (fns) (ba : Ba) (m : Nat) (caps : List SV) (hp : List VM.Obj) (out : List (List (Nat × VM.Obj))) : @S.fnS stdA (T' fns (look n7)) (fun _ _ _ _ _ => none) (@S.loopN stdA (T' fns (look n7)) (fun _ _ _ _ _ => none) ba 2) ba vf44 [.p .nils, .fn m caps] hp out = some ((SV.p (PV.int IntKind.i64 (-1)), hp, out), out) := by
  cbv
def or44 : CallF := fun ba f args hp out =>
  match f, args with
  | 44, [.p .nils, .fn m caps] => some (.p (.int .i64 (-1)), hp, out)
  | _, _ => none
theorem or44_ok : OkC (T n7) or44 := by
  intro ba f args hp out r h
  unfold or44 at h
  split at h
  · simp only [Option.some.injEq] at h; subst h
    exact CallsTo.fn okC_none (loopN_ok okC_none 2) (vf := vf44) rfl (sem44 stdF (look fl) ba _ _ hp out)
  · simp at h
theorem sem21_0 (F : Fns) (fns) (k0 k1 k2 k3 k4 k5 k6 : PV) : @S.fnS stdA (T' fns (look n7)) or44 (fun _ _ => none) ⟨0, 0⟩ vf21 [.nilp, .pagg [k0, k1, k2, k3, k4, k5, k6]] [] [] = some ((SV.tup [SV.pagg [PV.int IntKind.u32 0, PV.int IntKind.u32 0, PV.int IntKind.u64 0, PV.int IntKind.u64 0, PV.int IntKind.u32 0, PV.int IntKind.u32 0, PV.int IntKind.i64 0, PV.int IntKind.i64 0, PV.int IntKind.i64 0, PV.int IntKind.i64 0, PV.int IntKind.i64 0, PV.int IntKind.i64 0, PV.int IntKind.i64 0, PV.str [], PV.str [], PV.str [], PV.str [], PV.int IntKind.i64 0, PV.int IntKind.i64 0, PV.nils], SV.p (PV.bool false)], [], []), []) := by
  cbv
def q21 : List SV → Option SV
  | [.nilp, .pagg [k0, k1, k2, k3, k4, k5, k6]] => some (SV.tup [SV.pagg [PV.int IntKind.u32 0, PV.int IntKind.u32 0, PV.int IntKind.u64 0, PV.int IntKind.u64 0, PV.int IntKind.u32 0, PV.int IntKind.u32 0, PV.int IntKind.i64 0, PV.int IntKind.i64 0, PV.int IntKind.i64 0, PV.int IntKind.i64 0, PV.int IntKind.i64 0, PV.int IntKind.i64 0, PV.int IntKind.i64 0, PV.str [], PV.str [], PV.str [], PV.str [], PV.int IntKind.i64 0, PV.int IntKind.i64 0, PV.nils], SV.p (PV.bool false)])
  | _ => none
theorem p21 : QPrimOk Try.prog 21 q21 := pureQ n7_ok fun args v e => by
    unfold q21 at e; split at e
    · simp only [Option.some.injEq] at e; subst e
      exact ⟨rfl, rfl, _, _, CallsTo.fn or44_ok okL_none (vf := vf21) rfl (sem21_0 stdF (look fl) _ _ _ _ _ _ _)⟩
    · simp at e
def n8 : List (Nat × Prim) := (21, .q q21) :: n7
theorem n8_ok : PrimOk Try.prog (T n8) := prims_q p21 n7_ok
theorem sem14_0 (F : Fns) (fns) (k0 k1 k2 k3 k4 k5 k6 : PV) : @S.fnS stdA (T' fns (look n8)) (fun _ _ _ _ _ => none) (fun _ _ => none) ⟨0, 0⟩ vf14 [.nilp, .pagg [k0, k1, k2, k3, k4, k5, k6]] [] [] = some ((SV.tup [SV.pagg [PV.int IntKind.u32 0, PV.int IntKind.u32 0, PV.int IntKind.u64 0, PV.int IntKind.u64 0, PV.int IntKind.u32 0, PV.int IntKind.u32 0, PV.int IntKind.i64 0, PV.int IntKind.i64 0, PV.int IntKind.i64 0, PV.int IntKind.i64 0, PV.int IntKind.i64 0, PV.int IntKind.i64 0, PV.int IntKind.i64 0, PV.str [], PV.str [], PV.str [], PV.str [], PV.int IntKind.i64 0, PV.int IntKind.i64 0, PV.nils], SV.p (PV.bool false)], [], []), []) := by
  cbv
def q14 : List SV → Option SV
  | [.nilp, .pagg [k0, k1, k2, k3, k4, k5, k6]] => some (SV.tup [SV.pagg [PV.int IntKind.u32 0, PV.int IntKind.u32 0, PV.int IntKind.u64 0, PV.int IntKind.u64 0, PV.int IntKind.u32 0, PV.int IntKind.u32 0, PV.int IntKind.i64 0, PV.int IntKind.i64 0, PV.int IntKind.i64 0, PV.int IntKind.i64 0, PV.int IntKind.i64 0, PV.int IntKind.i64 0, PV.int IntKind.i64 0, PV.str [], PV.str [], PV.str [], PV.str [], PV.int IntKind.i64 0, PV.int IntKind.i64 0, PV.nils], SV.p (PV.bool false)])
  | _ => none
theorem p14 : QPrimOk Try.prog 14 q14 := pureQ n8_ok fun args v e => by
    unfold q14 at e; split at e
    · simp only [Option.some.injEq] at e; subst e
      exact ⟨rfl, rfl, _, _, CallsTo.fn okC_none okL_none (vf := vf14) rfl (sem14_0 stdF (look fl) _ _ _ _ _ _ _)⟩
    · simp at e
def n9 : List (Nat × Prim) := (14, .q q14) :: n8
theorem n9_ok : PrimOk Try.prog (T n9) := prims_q p14 n8_ok
theorem sem18n (F : Fns) (fns) (a0 a1 a2 a3 a4 a5 a6 a7 a8 a9 a10 a11 a12 a13 a14 a15 a16 a17 a18 : PV) : @S.fnS stdA (T' fns (look n9)) (fun _ _ _ _ _ => none) (fun _ _ => none) ⟨0, 0⟩ vf18 [.pagg [a0, a1, a2, a3, a4, a5, a6, a7, a8, a9, a10, a11, a12, a13, a14, a15, a16, a17, a18, .nils]] [] [] = some ((SV.pagg [a0, a1, a2, a3, a4, a5, a6, a7, a8, a9, a10, a11, a12, a13, a14, a15, a16, a17, a18, PV.nils], [], []), []) := by
  cbv
theorem sem18f (F : Fns) (fns) (a0 a1 a2 a3 a4 a5 a6 a7 a8 a9 a10 a11 a12 a13 a14 a15 a16 a17 a18 : PV) (es : List (List PV)) (h0 : F .cmp .gtr (Int.ofNat (F .rlen es)) 10 = false) : @S.fnS (symA F) (T' fns (look n9)) (fun _ _ _ _ _ => none) (fun _ _ => none) ⟨0, 0⟩ vf18 [.pagg [a0, a1, a2, a3, a4, a5, a6, a7, a8, a9, a10, a11, a12, a13, a14, a15, a16, a17, a18, .ro 3 es]] [] [] = some ((SV.pagg [a0, a1, a2, a3, a4, a5, a6, a7, a8, a9, a10, a11, a12, a13, a14, a15, a16, a17, a18, PV.ro 3 es], [], []), []) := by
  cbv
  rw [h0]
  cbv
theorem sem18t (F : Fns) (fns) (a0 a1 a2 a3 a4 a5 a6 a7 a8 a9 a10 a11 a12 a13 a14 a15 a16 a17 a18 : PV) (es : List (List PV)) (h0 : F .cmp .gtr (Int.ofNat (F .rlen es)) 10 = true) (h1 : F .cmp .leq 0 10 = true) (h2 : F .le 0 (F .toN 10) = true) (h3 : F .le (F .toN 10) (F .rlen es) = true) : @S.fnS (symA F) (T' fns (look n9)) (fun _ _ _ _ _ => none) (fun _ _ => none) ⟨0, 0⟩ vf18 [.pagg [a0, a1, a2, a3, a4, a5, a6, a7, a8, a9, a10, a11, a12, a13, a14, a15, a16, a17, a18, .ro 3 es]] [] [] = some ((SV.pagg [a0, a1, a2, a3, a4, a5, a6, a7, a8, a9, a10, a11, a12, a13, a14, a15, a16, a17, a18, PV.ro 3 (F Fn.rcut es 0 (F Fn.toN 10))], [], []), []) := by
  cbv
  rw [h0]
  cbv
  rw [h1]
  cbv
  rw [h2]
  cbv
  rw [h3]
  cbv
/-- Cut -/
def q18 (C : List (List PV) → List (List PV)) : List SV → Option SV
  | [.pagg [a0, a1, a2, a3, a4, a5, a6, a7, a8, a9, a10, a11, a12, a13, a14, a15, a16, a17, a18, .nils]] => some (.pagg [a0, a1, a2, a3, a4, a5, a6, a7, a8, a9, a10, a11, a12, a13, a14, a15, a16, a17, a18, .nils])
  | [.pagg [a0, a1, a2, a3, a4, a5, a6, a7, a8, a9, a10, a11, a12, a13, a14, a15, a16, a17, a18, .ro 3 es]] => some (.pagg [a0, a1, a2, a3, a4, a5, a6, a7, a8, a9, a10, a11, a12, a13, a14, a15, a16, a17, a18, .ro 3 (C es)])
  | _ => none
theorem cut_le (es : List (List PV)) (h : ¬ 10 < es.length) : cutE es = es := by unfold cutE; rw [if_pos (by omega)]
theorem cut_gt (es : List (List PV)) (h : 10 < es.length) : cutE es = (es.take 10).drop 0 := by unfold cutE; rw [if_neg (by omega)]; simp
theorem p18 : QPrimOk Try.prog 18 (q18 cutE) := pureQ n9_ok fun args v e => by
    unfold q18 at e; split at e
    · simp only [Option.some.injEq] at e; subst e
      exact ⟨rfl, rfl, _, _, CallsTo.fn okC_none okL_none (vf := vf18) rfl (sem18n stdF (look fl) _ _ _ _ _ _ _ _ _ _ _ _ _ _ _ _ _ _ _)⟩
    · simp only [Option.some.injEq] at e; subst e
      rename_i es
      by_cases h : 10 < es.length
      · rw [cut_gt es h]
        exact ⟨rfl, rfl, _, _, CallsTo.fn okC_none okL_none (vf := vf18) rfl (by rw [← symA_std]; exact sem18t stdF (look fl) _ _ _ _ _ _ _ _ _ _ _ _ _ _ _ _ _ _ _ es (decide_eq_true (by show (10 : Int) < Int.ofNat es.length; simp; omega)) rfl rfl (decide_eq_true (by show 10 ≤ es.length; omega)))⟩
      · rw [cut_le es h]
        exact ⟨rfl, rfl, _, _, CallsTo.fn okC_none okL_none (vf := vf18) rfl (by rw [← symA_std]; exact sem18f stdF (look fl) _ _ _ _ _ _ _ _ _ _ _ _ _ _ _ _ _ _ _ es (decide_eq_false (by show ¬ (10 : Int) < Int.ofNat es.length; simp; omega)))⟩
    · simp at e
def m1 (C : List (List PV) → List (List PV)) : List (Nat × Prim) := (18, .q (q18 C)) :: n9
theorem m1_ok : PrimOk Try.prog (T (m1 cutE)) := prims_q p18 n9_ok
theorem sem6n (C : List (List PV) → List (List PV)) (fns) (a0 a1 a2 a3 a4 a5 a6 a7 a8 a9 a10 a11 a12 a17 a18 : Int) (a13 a14 a15 a16 : List UInt8) : (@S.fnS stdA (T' fns (look (m1 C))) (fun _ _ _ _ _ => none) (fun _ _ => none) ⟨0, 0⟩ vf6 [.pagg [.int .u32 a0, .int .u32 a1, .int .u64 a2, .int .u64 a3, .int .u32 a4, .int .u32 a5, .int .i64 a6, .int .i64 a7, .int .i64 a8, .int .i64 a9, .int .i64 a10, .int .i64 a11, .int .i64 a12, .str a13, .str a14, .str a15, .str a16, .int .i64 a17, .int .i64 a18, .nils]] [] []).map (fun x => (x.1.1, x.2)) = some (.p (.bool true), []) := by
  cbv
theorem sem6r (C : List (List PV) → List (List PV)) (fns) (a0 a1 a2 a3 a4 a5 a6 a7 a8 a9 a10 a11 a12 a17 a18 : Int) (a13 a14 a15 a16 : List UInt8) (es : List (List PV)) : (@S.fnS stdA (T' fns (look (m1 C))) (fun _ _ _ _ _ => none) (fun _ _ => none) ⟨0, 0⟩ vf6 [.pagg [.int .u32 a0, .int .u32 a1, .int .u64 a2, .int .u64 a3, .int .u32 a4, .int .u32 a5, .int .i64 a6, .int .i64 a7, .int .i64 a8, .int .i64 a9, .int .i64 a10, .int .i64 a11, .int .i64 a12, .str a13, .str a14, .str a15, .str a16, .int .i64 a17, .int .i64 a18, .ro 3 es]] [] []).map (fun x => (x.1.1, x.2)) = some (.p (.bool true), []) := by
  cbv
theorem hrun6 : ∀ args, argsOk [(true, [Kd.int IntKind.u32, Kd.int IntKind.u32, Kd.int IntKind.u64, Kd.int IntKind.u64, Kd.int IntKind.u32, Kd.int IntKind.u32, Kd.int IntKind.i64, Kd.int IntKind.i64, Kd.int IntKind.i64, Kd.int IntKind.i64, Kd.int IntKind.i64, Kd.int IntKind.i64, Kd.int IntKind.i64, Kd.str, Kd.str, Kd.str, Kd.str, Kd.int IntKind.i64, Kd.int IntKind.i64, Kd.sl [Kd.int IntKind.i64, Kd.int IntKind.i64, Kd.int IntKind.i64]])] args → ∃ k hp' out', callN (T (m1 cutE)) k ⟨0, 0⟩ 6 args [] [] = some (.p (.bool true), hp', out') := by
  intro args h
  obtain ⟨v0, r0, rfl, g0, h⟩ := argsOk_cons h
  obtain rfl := argsOk_nil h
  obtain ⟨cs0, rfl, t⟩ := argOk_agg g0
  obtain ⟨c0, m0, rfl, q0, t⟩ := kdL_cons t
  obtain ⟨c1, m1, rfl, q1, t⟩ := kdL_cons t
  obtain ⟨c2, m2, rfl, q2, t⟩ := kdL_cons t
  obtain ⟨c3, m3, rfl, q3, t⟩ := kdL_cons t
  obtain ⟨c4, m4, rfl, q4, t⟩ := kdL_cons t
  obtain ⟨c5, m5, rfl, q5, t⟩ := kdL_cons t
  obtain ⟨c6, m6, rfl, q6, t⟩ := kdL_cons t
  obtain ⟨c7, m7, rfl, q7, t⟩ := kdL_cons t
  obtain ⟨c8, m8, rfl, q8, t⟩ := kdL_cons t
  obtain ⟨c9, m9, rfl, q9, t⟩ := kdL_cons t
  obtain ⟨c10, m10, rfl, q10, t⟩ := kdL_cons t
  obtain ⟨c11, m11, rfl, q11, t⟩ := kdL_cons t
  obtain ⟨c12, m12, rfl, q12, t⟩ := kdL_cons t
  obtain ⟨c13, m13, rfl, q13, t⟩ := kdL_cons t
  obtain ⟨c14, m14, rfl, q14, t⟩ := kdL_cons t
  obtain ⟨c15, m15, rfl, q15, t⟩ := kdL_cons t
  obtain ⟨c16, m16, rfl, q16, t⟩ := kdL_cons t
  obtain ⟨c17, m17, rfl, q17, t⟩ := kdL_cons t
  obtain ⟨c18, m18, rfl, q18, t⟩ := kdL_cons t
  obtain ⟨c19, m19, rfl, q19, t⟩ := kdL_cons t
  obtain rfl := kdL_nil t
  obtain ⟨a0, rfl, b0⟩ := kd1_int q0
  obtain ⟨a1, rfl, b1⟩ := kd1_int q1
  obtain ⟨a2, rfl, b2⟩ := kd1_int q2
  obtain ⟨a3, rfl, b3⟩ := kd1_int q3
  obtain ⟨a4, rfl, b4⟩ := kd1_int q4
  obtain ⟨a5, rfl, b5⟩ := kd1_int q5
  obtain ⟨a6, rfl, b6⟩ := kd1_int q6
  obtain ⟨a7, rfl, b7⟩ := kd1_int q7
  obtain ⟨a8, rfl, b8⟩ := kd1_int q8
  obtain ⟨a9, rfl, b9⟩ := kd1_int q9
  obtain ⟨a10, rfl, b10⟩ := kd1_int q10
  obtain ⟨a11, rfl, b11⟩ := kd1_int q11
  obtain ⟨a12, rfl, b12⟩ := kd1_int q12
  obtain ⟨a13, rfl, b13⟩ := kd1_str q13
  obtain ⟨a14, rfl, b14⟩ := kd1_str q14
  obtain ⟨a15, rfl, b15⟩ := kd1_str q15
  obtain ⟨a16, rfl, b16⟩ := kd1_str q16
  obtain ⟨a17, rfl, b17⟩ := kd1_int q17
  obtain ⟨a18, rfl, b18⟩ := kd1_int q18
  rcases kd1_sl q19 with rfl | ⟨e19, rfl, l19⟩
  · exact (runs_of okC_none okL_none (vf := vf6) rfl (sem6n cutE (look fl) a0 a1 a2 a3 a4 a5 a6 a7 a8 a9 a10 a11 a12 a17 a18 a13 a14 a15 a16))
  · exact (runs_of okC_none okL_none (vf := vf6) rfl (sem6r cutE (look fl) a0 a1 a2 a3 a4 a5 a6 a7 a8 a9 a10 a11 a12 a17 a18 a13 a14 a15 a16 e19))
end Go.Proofs.Ytidlbomanfkibaa.L
