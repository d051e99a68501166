import Derived.Test.YtkkainkhjimcmaaVG
import Derived.Test.YtkkainkhjimcmaaAwake
/-
Functions run on values that are not known, each by itself. Printed by program.
-/
namespace Go.Proofs.Ytkkainkhjimcmaa.L
open Go Go.VM
set_option linter.unusedVariables false
set_option maxRecDepth 100000
set_option maxHeartbeats 4000000
def q1 (L : Int → Bool) : List SV → Option SV
  | [.p (.int .u8 n)] => some (.p (.bool (L n)))
  | _ => none
def ps (L D : Int → Bool) : List (Nat × Prim) := [(21, .q (q1 L)), (24, .q (q1 D))]
def b18 : VCode := (.seq (.seq (.region none vf18r2 [0, 3, 19] [0, 3, 19]) (.cond (.t 19) .skip (.exit 0))) (.block 1 (.region none vf18r3 [0, 3] [0, 3])))

/-! letters, digits -/
def isL (n : Int) : Bool := decide (97 ≤ n) && decide (n ≤ 122)
def isD (n : Int) : Bool := decide (48 ≤ n) && decide (n ≤ 57)
def m0 : List (Nat × Prim) := []
theorem sem21_0 (F : Fns) (fns) (n : Int)  (h0 : F Fn.cmp BinOp.geq n 97 = true) : @S.fnS (symA F) (T' fns (look m0)) (fun _ _ _ _ _ => none) (fun _ _ => none) ⟨0, 0⟩ vf21 [.p (.int .u8 n)] [] [] = some ((SV.p (PV.bool (F Fn.cmp BinOp.leq n 122)), [], []), []) := by
  cbv
  rw [h0]
  cbv
theorem sem21_1 (F : Fns) (fns) (n : Int)  (h0 : F Fn.cmp BinOp.geq n 97 = false) : @S.fnS (symA F) (T' fns (look m0)) (fun _ _ _ _ _ => none) (fun _ _ => none) ⟨0, 0⟩ vf21 [.p (.int .u8 n)] [] [] = some ((SV.p (PV.bool false), [], []), []) := by
  cbv
  rw [h0]
  cbv
theorem p21 : QPrimOk Try.prog 21 (q1 isL) := pureQ prims_nil fun args v e => by
    unfold q1 at e; split at e
    · simp only [Option.some.injEq] at e; subst e
      rename_i n
      refine ⟨rfl, rfl, [], [], CallsTo.fn okC_none okL_none (vf := vf21) rfl ?_⟩
      rw [← symA_std]
      unfold isL
      by_cases h1 : 97 ≤ n
      · simp only [h1, decide_true, Bool.true_and]; exact sem21_0 stdF (look fl) n (std_geqT h1)
      · simp only [h1, decide_false, Bool.false_and]; exact sem21_1 stdF (look fl) n (std_geqF h1)
    · simp at e
theorem sem24_0 (F : Fns) (fns) (n : Int)  (h0 : F Fn.cmp BinOp.geq n 48 = true) : @S.fnS (symA F) (T' fns (look m0)) (fun _ _ _ _ _ => none) (fun _ _ => none) ⟨0, 0⟩ vf24 [.p (.int .u8 n)] [] [] = some ((SV.p (PV.bool (F Fn.cmp BinOp.leq n 57)), [], []), []) := by
  cbv
  rw [h0]
  cbv
theorem sem24_1 (F : Fns) (fns) (n : Int)  (h0 : F Fn.cmp BinOp.geq n 48 = false) : @S.fnS (symA F) (T' fns (look m0)) (fun _ _ _ _ _ => none) (fun _ _ => none) ⟨0, 0⟩ vf24 [.p (.int .u8 n)] [] [] = some ((SV.p (PV.bool false), [], []), []) := by
  cbv
  rw [h0]
  cbv
theorem p24 : QPrimOk Try.prog 24 (q1 isD) := pureQ prims_nil fun args v e => by
    unfold q1 at e; split at e
    · simp only [Option.some.injEq] at e; subst e
      rename_i n
      refine ⟨rfl, rfl, [], [], CallsTo.fn okC_none okL_none (vf := vf24) rfl ?_⟩
      rw [← symA_std]
      unfold isD
      by_cases h1 : 48 ≤ n
      · simp only [h1, decide_true, Bool.true_and]; exact sem24_0 stdF (look fl) n (std_geqT h1)
      · simp only [h1, decide_false, Bool.false_and]; exact sem24_1 stdF (look fl) n (std_geqF h1)
    · simp at e
theorem ps_ok : PrimOk Try.prog (T (ps isL isD)) := by
  intro f p h
  simp only [T, T', ps, look] at h
  split at h
  · rename_i e; subst e; simp only [Option.some.injEq] at h; subst h; exact p21
  split at h
  · rename_i e; subst e; simp only [Option.some.injEq] at h; subst h; exact p24
  · simp at h
theorem it18_0 (F : Fns) (fns) (L D : Int → Bool) (s : List UInt8) (n : Int)  (h0 : F Fn.cmp BinOp.lss n (Int.ofNat (F Fn.slen s)) = false) : @S.evS (symA F) (T' fns (look (ps L D))) (fun _ _ _ _ _ => none) (fun _ _ => none) ⟨0, 0⟩ b18 { env := [(0, SV.p (PV.str s)), (3, SV.p (PV.int IntKind.i64 n))], fr := [], hp := [], out := [] } = some (Ex.exit 0, { env := [(0, SV.p (PV.str s)), (3, SV.p (PV.int IntKind.i64 n)), (19, SV.p (PV.bool false))], fr := [], hp := [], out := [] }) := by
  cbv
  rw [h0]
  cbv
theorem it18_1 (F : Fns) (fns) (L D : Int → Bool) (s : List UInt8) (n : Int) (x0 : UInt8) (h0 : F Fn.cmp BinOp.lss n (Int.ofNat (F Fn.slen s)) = true) (h1 : F Fn.cmp BinOp.leq 0 n = true) (h2 : F Fn.sget s (F Fn.toN n) = some x0) (h3 : L (Int.ofNat x0.1.1.1) = true) : @S.evS (symA F) (T' fns (look (ps L D))) (fun _ _ _ _ _ => none) (fun _ _ => none) ⟨0, 0⟩ b18 { env := [(0, SV.p (PV.str s)), (3, SV.p (PV.int IntKind.i64 n))], fr := [], hp := [], out := [] } = some (Ex.normal, { env := [(0, SV.p (PV.str s)), (3, SV.p (PV.int IntKind.i64 (F Fn.ar BinOp.add IntKind.i64 n 1)))], fr := [], hp := [], out := [] }) := by
  cbv
  rw [h0]
  cbv
  rw [h1]
  cbv
  rw [h2]
  cbv
  rw [h3]
  cbv
theorem it18_2 (F : Fns) (fns) (L D : Int → Bool) (s : List UInt8) (n : Int) (x0 : UInt8) (h0 : F Fn.cmp BinOp.lss n (Int.ofNat (F Fn.slen s)) = true) (h1 : F Fn.cmp BinOp.leq 0 n = true) (h2 : F Fn.sget s (F Fn.toN n) = some x0) (h3 : L (Int.ofNat x0.1.1.1) = false) (h4 : F Fn.cmp BinOp.leq 0 n = true) (h5 : F Fn.sget s (F Fn.toN n) = some x0) (h6 : D (Int.ofNat x0.1.1.1) = true) : @S.evS (symA F) (T' fns (look (ps L D))) (fun _ _ _ _ _ => none) (fun _ _ => none) ⟨0, 0⟩ b18 { env := [(0, SV.p (PV.str s)), (3, SV.p (PV.int IntKind.i64 n))], fr := [], hp := [], out := [] } = some (Ex.normal, { env := [(0, SV.p (PV.str s)), (3, SV.p (PV.int IntKind.i64 (F Fn.ar BinOp.add IntKind.i64 n 1)))], fr := [], hp := [], out := [] }) := by
  cbv
  rw [h0]
  cbv
  rw [h1]
  cbv
  rw [h2]
  cbv
  rw [h3]
  cbv
  rw [h4]
  cbv
  rw [h5]
  cbv
  rw [h6]
  cbv
theorem it18_3 (F : Fns) (fns) (L D : Int → Bool) (s : List UInt8) (n : Int) (x0 : UInt8) (h0 : F Fn.cmp BinOp.lss n (Int.ofNat (F Fn.slen s)) = true) (h1 : F Fn.cmp BinOp.leq 0 n = true) (h2 : F Fn.sget s (F Fn.toN n) = some x0) (h3 : L (Int.ofNat x0.1.1.1) = false) (h4 : F Fn.cmp BinOp.leq 0 n = true) (h5 : F Fn.sget s (F Fn.toN n) = some x0) (h6 : D (Int.ofNat x0.1.1.1) = false) : @S.evS (symA F) (T' fns (look (ps L D))) (fun _ _ _ _ _ => none) (fun _ _ => none) ⟨0, 0⟩ b18 { env := [(0, SV.p (PV.str s)), (3, SV.p (PV.int IntKind.i64 n))], fr := [], hp := [], out := [] } = some (Ex.exit 0, { env := [(0, SV.p (PV.str s)), (3, SV.p (PV.int IntKind.i64 n)), (19, SV.p (PV.bool false))], fr := [], hp := [], out := [] }) := by
  cbv
  rw [h0]
  cbv
  rw [h1]
  cbv
  rw [h2]
  cbv
  rw [h3]
  cbv
  rw [h4]
  cbv
  rw [h5]
  cbv
  rw [h6]
  cbv
theorem sem18 (F : Fns) (fns) (L D : Int → Bool) (s : List UInt8) (m : Int) (Lp : VCode → St → Option (Ex × St))  (h0 : Lp (((VCode.region none [{ dst := some 4, op := VOp.mv (Opd.t 3), after := [], guard := none }, { dst := some 5, op := VOp.mv (Opd.t 0), after := [], guard := none }, { dst := some 6, op := VOp.len true (Opd.t 5), after := [1], guard := none }, { dst := some 7, op := VOp.bin BinOp.lss Ek.no (Opd.t 4) (Opd.t 6), after := [0, 2], guard := none }, { dst := some 8, op := VOp.mv (Opd.t 7), after := [3], guard := none }, { dst := some 9, op := VOp.mv (Opd.t 0), after := [4], guard := some (4, true) }, { dst := some 10, op := VOp.mv (Opd.t 3), after := [4], guard := some (4, true) }, { dst := some 11, op := VOp.idxS (Opd.t 9) (Opd.t 10), after := [5, 6, 4], guard := some (4, true) }, { dst := some 12, op := VOp.call 21 [Opd.t 11], after := [7, 4, 4], guard := some (4, true) }, { dst := some 13, op := VOp.mv (Opd.t 12), after := [8, 8, 4], guard := some (4, true) }, { dst := some 14, op := VOp.mv (Opd.t 0), after := [9], guard := some (9, false) }, { dst := some 15, op := VOp.mv (Opd.t 3), after := [9], guard := some (9, false) }, { dst := some 16, op := VOp.idxS (Opd.t 14) (Opd.t 15), after := [10, 11, 9], guard := some (9, false) }, { dst := some 17, op := VOp.call 24 [Opd.t 16], after := [12, 9, 9], guard := some (9, false) }, { dst := some 18, op := VOp.pick (Opd.t 13) (Opd.c (SV.p (PV.bool true))) (Opd.t 17), after := [9, 13, 4], guard := some (4, true) }, { dst := some 19, op := VOp.pick (Opd.t 8) (Opd.t 18) (Opd.c (SV.p (PV.bool false))), after := [4, 14], guard := none }] [0, 3, 19] [0, 3, 19]).seq (VCode.cond (Opd.t 19) VCode.skip (VCode.exit 0))).seq (VCode.block 1 (VCode.region none [{ dst := some 20, op := VOp.mv (Opd.t 3), after := [], guard := none }, { dst := some 21, op := VOp.bin BinOp.add Ek.no (Opd.t 20) (Opd.c (SV.p (PV.int IntKind.i64 1))), after := [0], guard := none }, { dst := some 3, op := VOp.asg (Opd.t 21), after := [1, 0, 1], guard := none }] [0, 3] [0, 3]))) { env := [(0, SV.p (PV.str s)), (3, SV.p (PV.int IntKind.i64 0))], fr := [], hp := [], out := [] } = some (Ex.exit 0, { env := [(0, SV.p (PV.str s)), (3, SV.p (PV.int IntKind.i64 m)), (19, SV.p (PV.bool false))], fr := [], hp := [], out := [] })) : @S.fnS (symA F) (T' fns (look (ps L D))) (fun _ _ _ _ _ => none) Lp ⟨0, 0⟩ vf18 [.p (.str s)] [] [] = some ((SV.p (PV.int IntKind.i64 m), [], []), []) := by
  cbv
  rw [h0]
  cbv

/-- a letter or a digit -/
def isW (c : UInt8) : Bool := isL (Int.ofNat c.toNat) || isD (Int.ofNat c.toNat)
def runN (s : List UInt8) : Nat := (s.takeWhile isW).length
theorem loop18 (s : List UInt8) (hs : s.length ≤ maxLen) : ∀ k, k ≤ runN s → ExecTo (T (ps isL isD)) ⟨0, 0⟩ (.loop b18) { env := [(0, SV.p (PV.str s)), (3, SV.p (PV.int IntKind.i64 (k : Int)))], fr := [], hp := [], out := [] } (Ex.exit 0, { env := [(0, SV.p (PV.str s)), (3, SV.p (PV.int IntKind.i64 (runN s : Int))), (19, SV.p (PV.bool false))], fr := [], hp := [], out := [] }) := by
  have hle : runN s ≤ s.length := tw_le isW s
  have hM : maxLen = 9223372036854775807 := rfl
  refine loop_run (α := Nat) (c := fun _ _ _ _ _ => none) (Lp := fun _ _ => none) okC_none okL_none (fun k => { env := [(0, SV.p (PV.str s)), (3, SV.p (PV.int IntKind.i64 (k : Int)))], fr := [], hp := [], out := [] }) (fun k => runN s - k) (fun _ => (Ex.exit 0, { env := [(0, SV.p (PV.str s)), (3, SV.p (PV.int IntKind.i64 (runN s : Int))), (19, SV.p (PV.bool false))], fr := [], hp := [], out := [] })) (fun k => k ≤ runN s) ?_
  intro k hk
  rw [← symA_std]
  by_cases hlt : k < runN s
  · left
    obtain ⟨c, hc, hp⟩ := tw_in isW s k hlt
    have e : stdF .ar .add .i64 (k : Int) 1 = ((k + 1 : Nat) : Int) := by rw [std_add (by omega) (by omega)]; rfl
    refine ⟨k + 1, ?_, hlt, by show runN s - (k + 1) < runN s - k; omega, rfl⟩
    unfold isW at hp
    cases hL : isL (Int.ofNat c.toNat) with
    | true =>
      have := it18_1 stdF (look fl) isL isD s k c (std_lssT (by show (k : Int) < (s.length : Int); omega)) (std_leqT (by omega)) hc hL
      rw [e] at this
      exact this
    | false =>
      rw [hL] at hp
      have := it18_2 stdF (look fl) isL isD s k c (std_lssT (by show (k : Int) < (s.length : Int); omega)) (std_leqT (by omega)) hc hL (std_leqT (by omega)) hc hp
      rw [e] at this
      exact this
  · right
    have hk : k = runN s := by omega
    subst hk
    rcases tw_out isW s with hn | ⟨c, hc, hp⟩
    · refine ⟨_, _, it18_0 stdF (look fl) isL isD s (runN s) (std_lssF ?_), by simp, rfl⟩
      have := List.getElem?_eq_none_iff.mp hn
      show ¬ ((runN s : Int) < (s.length : Int))
      unfold runN
      omega
    · have hlt : runN s < s.length := by
        have := (List.getElem?_eq_some_iff.mp hc).1
        exact this
      unfold isW at hp
      rw [Bool.or_eq_false_iff] at hp
      exact ⟨_, _, it18_3 stdF (look fl) isL isD s (runN s) c (std_lssT (by show (runN s : Int) < (s.length : Int); omega)) (std_leqT (by omega)) hc hp.1 (std_leqT (by omega)) hc hp.2, by simp, rfl⟩
theorem run18 (s : List UInt8) (hs : s.length ≤ maxLen) : CallsTo (T (ps isL isD)) ⟨0, 0⟩ 18 [.p (.str s)] [] [] (.p (.int .i64 (runN s)), [], []) :=
  CallsTo.fn okC_none allL_ok (vf := vf18) rfl (by rw [← symA_std]; exact sem18 stdF (look fl) isL isD s (runN s) (allL (T (ps isL isD)) ⟨0, 0⟩) (allL_eq (loop18 s hs 0 (Nat.zero_le _))))
def b19 : VCode := (.seq (.region none vf19r2 [0, 5, 6, 7] [0, 5, 6, 7]) (.seq (.cond (.t 7) .skip (.exit 0)) (.seq (.block 1 (.seq (.region none vf19r3 [0, 3, 5, 6, 8] [0, 3, 5, 6, 8]) (.seq (.region none vf19r4 [0, 5, 6, 13] [0, 5, 6, 13]) (.cond (.t 13) (.seq (.region none vf19r5 [2] [2]) .ret) .skip)))) (.region none vf19r6 [0, 5, 6] [0, 5, 6]))))
theorem it19_0 (F : Fns) (fns) (L D : Int → Bool) (s : List UInt8) (n i : Int)  (h0 : F Fn.cmp BinOp.lss i n = false) : @S.evS (symA F) (T' fns (look (ps L D))) (fun _ _ _ _ _ => none) (fun _ _ => none) ⟨0, 0⟩ b19 { env := [(0, SV.p (PV.str s)), (5, SV.p (PV.int IntKind.i64 n)), (6, SV.p (PV.int IntKind.i64 i))], fr := [], hp := [], out := [] } = some (Ex.exit 0, { env := [(0, SV.p (PV.str s)), (5, SV.p (PV.int IntKind.i64 n)), (6, SV.p (PV.int IntKind.i64 i)), (7, SV.p (PV.bool false))], fr := [], hp := [], out := [] }) := by
  cbv
  rw [h0]
  cbv
theorem it19_1 (F : Fns) (fns) (L D : Int → Bool) (s : List UInt8) (n i : Int) (x0 : UInt8) (h0 : F Fn.cmp BinOp.lss i n = true) (h1 : F Fn.cmp BinOp.leq 0 i = true) (h2 : F Fn.sget s (F Fn.toN i) = some x0) (h3 : D (Int.ofNat x0.1.1.1) = true) : @S.evS (symA F) (T' fns (look (ps L D))) (fun _ _ _ _ _ => none) (fun _ _ => none) ⟨0, 0⟩ b19 { env := [(0, SV.p (PV.str s)), (5, SV.p (PV.int IntKind.i64 n)), (6, SV.p (PV.int IntKind.i64 i))], fr := [], hp := [], out := [] } = some (Ex.normal, { env := [(0, SV.p (PV.str s)), (5, SV.p (PV.int IntKind.i64 n)), (6, SV.p (PV.int IntKind.i64 (F Fn.ar BinOp.add IntKind.i64 i 1)))], fr := [], hp := [], out := [] }) := by
  cbv
  rw [h0]
  cbv
  rw [h1]
  cbv
  rw [h2]
  cbv
  rw [h3]
  cbv
theorem it19_2 (F : Fns) (fns) (L D : Int → Bool) (s : List UInt8) (n i : Int) (x0 : UInt8) (h0 : F Fn.cmp BinOp.lss i n = true) (h1 : F Fn.cmp BinOp.leq 0 i = true) (h2 : F Fn.sget s (F Fn.toN i) = some x0) (h3 : D (Int.ofNat x0.1.1.1) = false) : @S.evS (symA F) (T' fns (look (ps L D))) (fun _ _ _ _ _ => none) (fun _ _ => none) ⟨0, 0⟩ b19 { env := [(0, SV.p (PV.str s)), (5, SV.p (PV.int IntKind.i64 n)), (6, SV.p (PV.int IntKind.i64 i))], fr := [], hp := [], out := [] } = some (Ex.ret, { env := [(2, SV.p (PV.bool false))], fr := [], hp := [], out := [] }) := by
  cbv
  rw [h0]
  cbv
  rw [h1]
  cbv
  rw [h2]
  cbv
  rw [h3]
  cbv
theorem sem19t_0 (F : Fns) (fns) (L D : Int → Bool)  (Lp : VCode → St → Option (Ex × St)) (s : List UInt8) (n : Int)  (h0 : Lp ((VCode.region none [{ dst := some 7, op := VOp.bin BinOp.lss Ek.no (Opd.t 6) (Opd.t 5), after := [], guard := none }] [0, 5, 6, 7] [0, 5, 6, 7]).seq ((VCode.cond (Opd.t 7) VCode.skip (VCode.exit 0)).seq ((VCode.block 1 ((VCode.region none [{ dst := some 8, op := VOp.mv (Opd.t 6), after := [], guard := none }, { dst := some 3, op := VOp.asg (Opd.t 8), after := [0, 0], guard := none }] [0, 3, 5, 6, 8] [0, 3, 5, 6, 8]).seq ((VCode.region none [{ dst := some 9, op := VOp.mv (Opd.t 0), after := [], guard := none }, { dst := some 10, op := VOp.mv (Opd.t 3), after := [], guard := none }, { dst := some 11, op := VOp.idxS (Opd.t 9) (Opd.t 10), after := [0, 1], guard := none }, { dst := some 12, op := VOp.call 24 [Opd.t 11], after := [2], guard := none }, { dst := some 13, op := VOp.un UnOp.not (Opd.t 12), after := [3], guard := none }] [0, 5, 6, 13] [0, 5, 6, 13]).seq (VCode.cond (Opd.t 13) ((VCode.region none [{ dst := some 2, op := VOp.asg (Opd.c (SV.p (PV.bool false))), after := [], guard := none }] [2] [2]).seq VCode.ret) VCode.skip)))).seq (VCode.region none [{ dst := some 14, op := VOp.bin BinOp.add Ek.no (Opd.t 6) (Opd.c (SV.p (PV.int IntKind.i64 1))), after := [], guard := none }, { dst := some 6, op := VOp.mv (Opd.t 14), after := [0], guard := none }] [0, 5, 6] [0, 5, 6])))) { env := [(0, SV.p (PV.str s)), (5, SV.p (PV.int IntKind.i64 (Int.ofNat (F Fn.slen s)))), (6, SV.p (PV.int IntKind.i64 0))], fr := [], hp := [], out := [] } = some (Ex.exit 0, { env := [(0, SV.p (PV.str s)), (5, SV.p (PV.int IntKind.i64 n)), (6, SV.p (PV.int IntKind.i64 n)), (7, SV.p (PV.bool false))], fr := [], hp := [], out := [] })) : @S.fnS (symA F) (T' fns (look (ps L D))) (fun _ _ _ _ _ => none) Lp ⟨0, 0⟩ vf19 [.p (.str s)] [] [] = some ((SV.p (PV.bool true), [], []), []) := by
  cbv
  rw [h0]
  cbv
theorem sem19f_0 (F : Fns) (fns) (L D : Int → Bool)  (Lp : VCode → St → Option (Ex × St)) (s : List UInt8)  (h0 : Lp ((VCode.region none [{ dst := some 7, op := VOp.bin BinOp.lss Ek.no (Opd.t 6) (Opd.t 5), after := [], guard := none }] [0, 5, 6, 7] [0, 5, 6, 7]).seq ((VCode.cond (Opd.t 7) VCode.skip (VCode.exit 0)).seq ((VCode.block 1 ((VCode.region none [{ dst := some 8, op := VOp.mv (Opd.t 6), after := [], guard := none }, { dst := some 3, op := VOp.asg (Opd.t 8), after := [0, 0], guard := none }] [0, 3, 5, 6, 8] [0, 3, 5, 6, 8]).seq ((VCode.region none [{ dst := some 9, op := VOp.mv (Opd.t 0), after := [], guard := none }, { dst := some 10, op := VOp.mv (Opd.t 3), after := [], guard := none }, { dst := some 11, op := VOp.idxS (Opd.t 9) (Opd.t 10), after := [0, 1], guard := none }, { dst := some 12, op := VOp.call 24 [Opd.t 11], after := [2], guard := none }, { dst := some 13, op := VOp.un UnOp.not (Opd.t 12), after := [3], guard := none }] [0, 5, 6, 13] [0, 5, 6, 13]).seq (VCode.cond (Opd.t 13) ((VCode.region none [{ dst := some 2, op := VOp.asg (Opd.c (SV.p (PV.bool false))), after := [], guard := none }] [2] [2]).seq VCode.ret) VCode.skip)))).seq (VCode.region none [{ dst := some 14, op := VOp.bin BinOp.add Ek.no (Opd.t 6) (Opd.c (SV.p (PV.int IntKind.i64 1))), after := [], guard := none }, { dst := some 6, op := VOp.mv (Opd.t 14), after := [0], guard := none }] [0, 5, 6] [0, 5, 6])))) { env := [(0, SV.p (PV.str s)), (5, SV.p (PV.int IntKind.i64 (Int.ofNat (F Fn.slen s)))), (6, SV.p (PV.int IntKind.i64 0))], fr := [], hp := [], out := [] } = some (Ex.ret, { env := [(2, SV.p (PV.bool false))], fr := [], hp := [], out := [] })) : @S.fnS (symA F) (T' fns (look (ps L D))) (fun _ _ _ _ _ => none) Lp ⟨0, 0⟩ vf19 [.p (.str s)] [] [] = some ((SV.p (PV.bool false), [], []), []) := by
  cbv
  rw [h0]
  cbv

def isDc (c : UInt8) : Bool := isD (Int.ofNat c.toNat)
theorem tw_all (p : UInt8 → Bool) : ∀ (s : List UInt8), s.all p = decide ((s.takeWhile p).length = s.length)
  | [] => rfl
  | c :: r => by
    rw [List.all_cons, List.takeWhile_cons]
    cases p c with
    | true => simpa using tw_all p r
    | false => simp
theorem run19 (s : List UInt8) (hs : s.length ≤ maxLen) : CallsTo (T (ps isL isD)) ⟨0, 0⟩ 19 [.p (.str s)] [] [] (.p (.bool (s.all isDc)), [], []) := by
  have hM : maxLen = 9223372036854775807 := rfl
  rw [tw_all]
  have hn : ∀ k x, k < s.length → s[k]? = some x → isDc x = true → @S.evS stdA (T (ps isL isD)) (fun _ _ _ _ _ => none) (fun _ _ => none) ⟨0, 0⟩ b19 { env := [(0, SV.p (PV.str s)), (5, SV.p (PV.int IntKind.i64 (s.length : Int))), (6, SV.p (PV.int IntKind.i64 (k : Int)))], fr := [], hp := [], out := [] } = some (.normal, { env := [(0, SV.p (PV.str s)), (5, SV.p (PV.int IntKind.i64 (s.length : Int))), (6, SV.p (PV.int IntKind.i64 ((k + 1 : Nat) : Int)))], fr := [], hp := [], out := [] }) := by
    intro k x h1 h2 h3
    rw [← symA_std]
    have := it19_1 stdF (look fl) isL isD s s.length k x (std_lssT (by omega)) (std_leqT (by omega)) h2 h3
    rw [show stdF .ar .add .i64 (k : Int) 1 = ((k + 1 : Nat) : Int) by rw [std_add (by omega) (by omega)]; rfl] at this
    exact this
  by_cases h : (s.takeWhile isDc).length = s.length
  · rw [decide_eq_true h]
    have hL := scan_run (T := T (ps isL isD)) (ba := ⟨0, 0⟩) okC_none okL_none (b := b19) (fun k => { env := [(0, SV.p (PV.str s)), (5, SV.p (PV.int IntKind.i64 (s.length : Int))), (6, SV.p (PV.int IntKind.i64 (k : Int)))], fr := [], hp := [], out := [] }) (Ex.exit 0, { env := [(0, SV.p (PV.str s)), (5, SV.p (PV.int IntKind.i64 (s.length : Int))), (6, SV.p (PV.int IntKind.i64 (s.length : Int))), (7, SV.p (PV.bool false))], fr := [], hp := [], out := [] }) (by simp) s isDc hn
      (fun _ => by rw [← symA_std]; exact it19_0 stdF (look fl) isL isD s s.length s.length (std_lssF (by omega))) (fun x h1 => by omega)
    exact CallsTo.fn okC_none allL_ok (vf := vf19) rfl (by rw [← symA_std]; exact sem19t_0 stdF (look fl) isL isD (allL (T (ps isL isD)) ⟨0, 0⟩) s s.length (allL_eq hL))
  · rw [decide_eq_false h]
    have hL := scan_run (T := T (ps isL isD)) (ba := ⟨0, 0⟩) okC_none okL_none (b := b19) (fun k => { env := [(0, SV.p (PV.str s)), (5, SV.p (PV.int IntKind.i64 (s.length : Int))), (6, SV.p (PV.int IntKind.i64 (k : Int)))], fr := [], hp := [], out := [] }) (Ex.ret, { env := [(2, SV.p (PV.bool false))], fr := [], hp := [], out := [] }) (by simp) s isDc hn
      (fun h1 => absurd h1 h) (fun x h1 h2 h3 => by rw [← symA_std]; exact it19_2 stdF (look fl) isL isD s s.length _ x (std_lssT (by omega)) (std_leqT (by omega)) h2 h3)
    exact CallsTo.fn okC_none allL_ok (vf := vf19) rfl (by rw [← symA_std]; exact sem19f_0 stdF (look fl) isL isD (allL (T (ps isL isD)) ⟨0, 0⟩) s (allL_eq hL))
def b20 : VCode := (.seq (.region none vf20r7 [0, 2, 4, 22, 23, 24] [0, 2, 4, 22, 23, 24]) (.seq (.cond (.t 24) .skip (.exit 1)) (.seq (.block 2 (.seq (.region none vf20r8 [0, 2, 4, 5, 22, 23, 25] [0, 2, 4, 5, 22, 23, 25]) (.region none vf20r9 [0, 2, 4, 22, 23] [0, 2, 4, 22, 23]))) (.region none vf20r10 [0, 2, 4, 22, 23] [0, 2, 4, 22, 23]))))
theorem it20_0 (F : Fns) (fns) (L D : Int → Bool) (s : List UInt8) (n i a : Int)  (h0 : F Fn.cmp BinOp.lss i n = false) : @S.evS (symA F) (T' fns (look (ps L D))) (fun _ _ _ _ _ => none) (fun _ _ => none) ⟨0, 0⟩ b20 { env := [(0, SV.p (PV.str s)), (2, SV.ptr { root := Root.st 0 2, off := 0, row := none }), (4, SV.p (PV.int IntKind.i64 a)), (22, SV.p (PV.int IntKind.i64 n)), (23, SV.p (PV.int IntKind.i64 i))], fr := [(2, [SV.p (PV.int IntKind.i64 0), SV.p (PV.str []), SV.p (PV.int IntKind.i64 0), SV.p (PV.int IntKind.i64 0)])], hp := [], out := [] } = some (Ex.exit 1, { env := [(0, SV.p (PV.str s)), (2, SV.ptr { root := Root.st 0 2, off := 0, row := none }), (4, SV.p (PV.int IntKind.i64 a)), (22, SV.p (PV.int IntKind.i64 n)), (23, SV.p (PV.int IntKind.i64 i)), (24, SV.p (PV.bool false))], fr := [(2, [SV.p (PV.int IntKind.i64 0), SV.p (PV.str []), SV.p (PV.int IntKind.i64 0), SV.p (PV.int IntKind.i64 0)])], hp := [], out := [] }) := by
  cbv
  rw [h0]
  cbv
theorem it20_1 (F : Fns) (fns) (L D : Int → Bool) (s : List UInt8) (n i a : Int) (x0 : UInt8) (h0 : F Fn.cmp BinOp.lss i n = true) (h1 : F Fn.cmp BinOp.leq 0 i = true) (h2 : F Fn.sget s (F Fn.toN i) = some x0) : @S.evS (symA F) (T' fns (look (ps L D))) (fun _ _ _ _ _ => none) (fun _ _ => none) ⟨0, 0⟩ b20 { env := [(0, SV.p (PV.str s)), (2, SV.ptr { root := Root.st 0 2, off := 0, row := none }), (4, SV.p (PV.int IntKind.i64 a)), (22, SV.p (PV.int IntKind.i64 n)), (23, SV.p (PV.int IntKind.i64 i))], fr := [(2, [SV.p (PV.int IntKind.i64 0), SV.p (PV.str []), SV.p (PV.int IntKind.i64 0), SV.p (PV.int IntKind.i64 0)])], hp := [], out := [] } = some (Ex.normal, { env := [(0, SV.p (PV.str s)), (2, SV.ptr { root := Root.st 0 2, off := 0, row := none }), (4, SV.p (PV.int IntKind.i64 (F Fn.ar BinOp.add IntKind.i64 (F Fn.ar BinOp.mul IntKind.i64 10 a) (F Fn.wrap IntKind.i64 (F Fn.ar BinOp.sub IntKind.u8 (Int.ofNat x0.1.1.1) 48))))), (22, SV.p (PV.int IntKind.i64 n)), (23, SV.p (PV.int IntKind.i64 (F Fn.ar BinOp.add IntKind.i64 i 1)))], fr := [(2, [SV.p (PV.int IntKind.i64 0), SV.p (PV.str []), SV.p (PV.int IntKind.i64 0), SV.p (PV.int IntKind.i64 0)])], hp := [], out := [] }) := by
  cbv
  rw [h0]
  cbv
  rw [h1]
  cbv
  rw [h2]
  cbv
theorem sem20_0 (F : Fns) (fns) (L D : Int → Bool)  (Lp : VCode → St → Option (Ex × St)) (s : List UInt8) (a n : Int)  (h0 : F Fn.cmp BinOp.gtr (Int.ofNat (F Fn.slen s)) 6 = true) : @S.fnS (symA F) (T' fns (look (ps L D))) (fun _ _ _ _ _ => none) Lp ⟨0, 0⟩ vf20 [.p (.str s)] [] [] = some ((SV.tup [SV.pagg [PV.int IntKind.i64 0, PV.str [], PV.int IntKind.i64 0, PV.int IntKind.i64 0], SV.p (PV.int IntKind.i64 6)], [], []), []) := by
  cbv
  rw [h0]
  cbv
theorem sem20_1 (F : Fns) (fns) (L D : Int → Bool)  (Lp : VCode → St → Option (Ex × St)) (s : List UInt8) (a n : Int)  (h0 : F Fn.cmp BinOp.gtr (Int.ofNat (F Fn.slen s)) 6 = false) (h1 : F Fn.cmp BinOp.gtr (Int.ofNat (F Fn.slen s)) 1 = false) (h2 : Lp ((VCode.region none [{ dst := some 24, op := VOp.bin BinOp.lss Ek.no (Opd.t 23) (Opd.t 22), after := [], guard := none }] [0, 2, 4, 22, 23, 24] [0, 2, 4, 22, 23, 24]).seq ((VCode.cond (Opd.t 24) VCode.skip (VCode.exit 1)).seq ((VCode.block 2 ((VCode.region none [{ dst := some 25, op := VOp.mv (Opd.t 23), after := [], guard := none }, { dst := some 5, op := VOp.asg (Opd.t 25), after := [0, 0], guard := none }] [0, 2, 4, 5, 22, 23, 25] [0, 2, 4, 5, 22, 23, 25]).seq (VCode.region none [{ dst := some 26, op := VOp.mv (Opd.t 4), after := [], guard := none }, { dst := some 27, op := VOp.bin BinOp.mul Ek.no (Opd.c (SV.p (PV.int IntKind.i64 10))) (Opd.t 26), after := [0], guard := none }, { dst := some 28, op := VOp.mv (Opd.t 0), after := [], guard := none }, { dst := some 29, op := VOp.mv (Opd.t 5), after := [], guard := none }, { dst := some 30, op := VOp.idxS (Opd.t 28) (Opd.t 29), after := [2, 3], guard := none }, { dst := some 31, op := VOp.bin BinOp.sub Ek.no (Opd.t 30) (Opd.c (SV.p (PV.int IntKind.u8 48))), after := [4], guard := none }, { dst := some 32, op := VOp.conv (Cv.int IntKind.i64) (Opd.t 31), after := [5], guard := none }, { dst := some 33, op := VOp.bin BinOp.add Ek.no (Opd.t 27) (Opd.t 32), after := [1, 6], guard := none }, { dst := some 4, op := VOp.asg (Opd.t 33), after := [7, 0, 1, 2, 3, 4, 5, 6, 7], guard := none }] [0, 2, 4, 22, 23] [0, 2, 4, 22, 23]))).seq (VCode.region none [{ dst := some 34, op := VOp.bin BinOp.add Ek.no (Opd.t 23) (Opd.c (SV.p (PV.int IntKind.i64 1))), after := [], guard := none }, { dst := some 23, op := VOp.mv (Opd.t 34), after := [0], guard := none }] [0, 2, 4, 22, 23] [0, 2, 4, 22, 23])))) { env := [(0, SV.p (PV.str s)), (2, SV.ptr { root := Root.st 0 2, off := 0, row := none }), (4, SV.p (PV.int IntKind.i64 0)), (22, SV.p (PV.int IntKind.i64 (Int.ofNat (F Fn.slen s)))), (23, SV.p (PV.int IntKind.i64 0))], fr := [(2, [SV.p (PV.int IntKind.i64 0), SV.p (PV.str []), SV.p (PV.int IntKind.i64 0), SV.p (PV.int IntKind.i64 0)])], hp := [], out := [] } = some (Ex.exit 1, { env := [(0, SV.p (PV.str s)), (2, SV.ptr { root := Root.st 0 2, off := 0, row := none }), (4, SV.p (PV.int IntKind.i64 a)), (22, SV.p (PV.int IntKind.i64 n)), (23, SV.p (PV.int IntKind.i64 n)), (24, SV.p (PV.bool false))], fr := [(2, [SV.p (PV.int IntKind.i64 0), SV.p (PV.str []), SV.p (PV.int IntKind.i64 0), SV.p (PV.int IntKind.i64 0)])], hp := [], out := [] })) : @S.fnS (symA F) (T' fns (look (ps L D))) (fun _ _ _ _ _ => none) Lp ⟨0, 0⟩ vf20 [.p (.str s)] [] [] = some ((SV.tup [SV.pagg [PV.int IntKind.i64 2, PV.str s, PV.int IntKind.i64 a, PV.int IntKind.i64 0], SV.p (PV.int IntKind.i64 0)], [], []), []) := by
  cbv
  rw [h0]
  cbv
  rw [h1]
  cbv
  rw [h2]
  cbv
theorem sem20_2 (F : Fns) (fns) (L D : Int → Bool)  (Lp : VCode → St → Option (Ex × St)) (s : List UInt8) (a n : Int) (x0 : UInt8) (h0 : F Fn.cmp BinOp.gtr (Int.ofNat (F Fn.slen s)) 6 = false) (h1 : F Fn.cmp BinOp.gtr (Int.ofNat (F Fn.slen s)) 1 = true) (h2 : F Fn.cmp BinOp.leq 0 0 = true) (h3 : F Fn.sget s (F Fn.toN 0) = some x0) (h4 : F Fn.cmp BinOp.eql (Int.ofNat x0.1.1.1) 48 = true) : @S.fnS (symA F) (T' fns (look (ps L D))) (fun _ _ _ _ _ => none) Lp ⟨0, 0⟩ vf20 [.p (.str s)] [] [] = some ((SV.tup [SV.pagg [PV.int IntKind.i64 0, PV.str [], PV.int IntKind.i64 0, PV.int IntKind.i64 0], SV.p (PV.int IntKind.i64 20)], [], []), []) := by
  cbv
  rw [h0]
  cbv
  rw [h1]
  cbv
  rw [h2]
  cbv
  rw [h3]
  cbv
  rw [h4]
  cbv
theorem sem20_3 (F : Fns) (fns) (L D : Int → Bool)  (Lp : VCode → St → Option (Ex × St)) (s : List UInt8) (a n : Int) (x0 : UInt8) (h0 : F Fn.cmp BinOp.gtr (Int.ofNat (F Fn.slen s)) 6 = false) (h1 : F Fn.cmp BinOp.gtr (Int.ofNat (F Fn.slen s)) 1 = true) (h2 : F Fn.cmp BinOp.leq 0 0 = true) (h3 : F Fn.sget s (F Fn.toN 0) = some x0) (h4 : F Fn.cmp BinOp.eql (Int.ofNat x0.1.1.1) 48 = false) (h5 : Lp ((VCode.region none [{ dst := some 24, op := VOp.bin BinOp.lss Ek.no (Opd.t 23) (Opd.t 22), after := [], guard := none }] [0, 2, 4, 22, 23, 24] [0, 2, 4, 22, 23, 24]).seq ((VCode.cond (Opd.t 24) VCode.skip (VCode.exit 1)).seq ((VCode.block 2 ((VCode.region none [{ dst := some 25, op := VOp.mv (Opd.t 23), after := [], guard := none }, { dst := some 5, op := VOp.asg (Opd.t 25), after := [0, 0], guard := none }] [0, 2, 4, 5, 22, 23, 25] [0, 2, 4, 5, 22, 23, 25]).seq (VCode.region none [{ dst := some 26, op := VOp.mv (Opd.t 4), after := [], guard := none }, { dst := some 27, op := VOp.bin BinOp.mul Ek.no (Opd.c (SV.p (PV.int IntKind.i64 10))) (Opd.t 26), after := [0], guard := none }, { dst := some 28, op := VOp.mv (Opd.t 0), after := [], guard := none }, { dst := some 29, op := VOp.mv (Opd.t 5), after := [], guard := none }, { dst := some 30, op := VOp.idxS (Opd.t 28) (Opd.t 29), after := [2, 3], guard := none }, { dst := some 31, op := VOp.bin BinOp.sub Ek.no (Opd.t 30) (Opd.c (SV.p (PV.int IntKind.u8 48))), after := [4], guard := none }, { dst := some 32, op := VOp.conv (Cv.int IntKind.i64) (Opd.t 31), after := [5], guard := none }, { dst := some 33, op := VOp.bin BinOp.add Ek.no (Opd.t 27) (Opd.t 32), after := [1, 6], guard := none }, { dst := some 4, op := VOp.asg (Opd.t 33), after := [7, 0, 1, 2, 3, 4, 5, 6, 7], guard := none }] [0, 2, 4, 22, 23] [0, 2, 4, 22, 23]))).seq (VCode.region none [{ dst := some 34, op := VOp.bin BinOp.add Ek.no (Opd.t 23) (Opd.c (SV.p (PV.int IntKind.i64 1))), after := [], guard := none }, { dst := some 23, op := VOp.mv (Opd.t 34), after := [0], guard := none }] [0, 2, 4, 22, 23] [0, 2, 4, 22, 23])))) { env := [(0, SV.p (PV.str s)), (2, SV.ptr { root := Root.st 0 2, off := 0, row := none }), (4, SV.p (PV.int IntKind.i64 0)), (22, SV.p (PV.int IntKind.i64 (Int.ofNat (F Fn.slen s)))), (23, SV.p (PV.int IntKind.i64 0))], fr := [(2, [SV.p (PV.int IntKind.i64 0), SV.p (PV.str []), SV.p (PV.int IntKind.i64 0), SV.p (PV.int IntKind.i64 0)])], hp := [], out := [] } = some (Ex.exit 1, { env := [(0, SV.p (PV.str s)), (2, SV.ptr { root := Root.st 0 2, off := 0, row := none }), (4, SV.p (PV.int IntKind.i64 a)), (22, SV.p (PV.int IntKind.i64 n)), (23, SV.p (PV.int IntKind.i64 n)), (24, SV.p (PV.bool false))], fr := [(2, [SV.p (PV.int IntKind.i64 0), SV.p (PV.str []), SV.p (PV.int IntKind.i64 0), SV.p (PV.int IntKind.i64 0)])], hp := [], out := [] })) : @S.fnS (symA F) (T' fns (look (ps L D))) (fun _ _ _ _ _ => none) Lp ⟨0, 0⟩ vf20 [.p (.str s)] [] [] = some ((SV.tup [SV.pagg [PV.int IntKind.i64 2, PV.str s, PV.int IntKind.i64 a, PV.int IntKind.i64 0], SV.p (PV.int IntKind.i64 0)], [], []), []) := by
  cbv
  rw [h0]
  cbv
  rw [h1]
  cbv
  rw [h2]
  cbv
  rw [h3]
  cbv
  rw [h4]
  cbv
  rw [h5]
  cbv

def numV (s : List UInt8) : Int := s.foldl (fun a c => 10 * a + (Int.ofNat c.toNat - 48)) 0

/-- a number's token, and what is wrong with it -/
def numR (s : List UInt8) : Int × List UInt8 × Int × Int :=
  if 6 < s.length then (0, [], 0, 6) else match s with
    | c :: d :: r => if c = 48 then (0, [], 0, 20) else (2, c :: d :: r, numV (c :: d :: r), 0)
    | s => (2, s, numV s, 0)
theorem numV_snoc (s : List UInt8) (c : UInt8) : numV (s ++ [c]) = 10 * numV s + (Int.ofNat c.toNat - 48) := by
  unfold numV; rw [List.foldl_append]; rfl
theorem isDc_iff {c : UInt8} (h : isDc c = true) : 48 ≤ (Int.ofNat c.toNat) ∧ Int.ofNat c.toNat ≤ 57 := by
  unfold isDc isD at h
  simpa using h
theorem numV_bound : ∀ (n : Nat) (s : List UInt8), s.length = n → s.all isDc = true → 0 ≤ numV s ∧ numV s < 10 ^ n
  | 0, s, h, _ => by
    have : s = [] := List.eq_nil_of_length_eq_zero h
    subst this; decide
  | n + 1, s, h, ha => by
    have hne : s ≠ [] := by intro e; subst e; simp at h
    obtain ⟨r, c, rfl⟩ : ∃ r c, s = r ++ [c] := ⟨s.dropLast, s.getLast hne, (List.dropLast_concat_getLast hne).symm⟩
    rw [List.all_append] at ha
    simp only [List.all_cons, List.all_nil, Bool.and_true, Bool.and_eq_true] at ha
    have h1 := numV_bound n r (by simpa using h) ha.1
    have h2 := isDc_iff ha.2
    rw [numV_snoc, Int.pow_succ]
    omega
theorem loop20 (s : List UInt8) (hs : s.length ≤ 6) (hd : s.all isDc = true) : ExecTo (T (ps isL isD)) ⟨0, 0⟩ (.loop b20) { env := [(0, SV.p (PV.str s)), (2, SV.ptr { root := Root.st 0 2, off := 0, row := none }), (4, SV.p (PV.int IntKind.i64 0)), (22, SV.p (PV.int IntKind.i64 (s.length : Int))), (23, SV.p (PV.int IntKind.i64 0))], fr := [(2, [SV.p (PV.int IntKind.i64 0), SV.p (PV.str []), SV.p (PV.int IntKind.i64 0), SV.p (PV.int IntKind.i64 0)])], hp := [], out := [] } (Ex.exit 1, { env := [(0, SV.p (PV.str s)), (2, SV.ptr { root := Root.st 0 2, off := 0, row := none }), (4, SV.p (PV.int IntKind.i64 (numV s))), (22, SV.p (PV.int IntKind.i64 (s.length : Int))), (23, SV.p (PV.int IntKind.i64 (s.length : Int))), (24, SV.p (PV.bool false))], fr := [(2, [SV.p (PV.int IntKind.i64 0), SV.p (PV.str []), SV.p (PV.int IntKind.i64 0), SV.p (PV.int IntKind.i64 0)])], hp := [], out := [] }) := by
  have h := for_run (T := T (ps isL isD)) (ba := ⟨0, 0⟩) (c := fun _ _ _ _ _ => none) (Lp := fun _ _ => none) okC_none okL_none (b := b20) (fun k => { env := [(0, SV.p (PV.str s)), (2, SV.ptr { root := Root.st 0 2, off := 0, row := none }), (4, SV.p (PV.int IntKind.i64 (numV (s.take k)))), (22, SV.p (PV.int IntKind.i64 (s.length : Int))), (23, SV.p (PV.int IntKind.i64 ((k : Nat) : Int)))], fr := [(2, [SV.p (PV.int IntKind.i64 0), SV.p (PV.str []), SV.p (PV.int IntKind.i64 0), SV.p (PV.int IntKind.i64 0)])], hp := [], out := [] }) (Ex.exit 1, { env := [(0, SV.p (PV.str s)), (2, SV.ptr { root := Root.st 0 2, off := 0, row := none }), (4, SV.p (PV.int IntKind.i64 (numV s))), (22, SV.p (PV.int IntKind.i64 (s.length : Int))), (23, SV.p (PV.int IntKind.i64 (s.length : Int))), (24, SV.p (PV.bool false))], fr := [(2, [SV.p (PV.int IntKind.i64 0), SV.p (PV.str []), SV.p (PV.int IntKind.i64 0), SV.p (PV.int IntKind.i64 0)])], hp := [], out := [] }) (by simp) s.length ?_ ?_ 0 (Nat.zero_le _)
  · exact h
  · intro k hk
    rw [← symA_std]
    have hx : s[k]? = some s[k] := List.getElem?_eq_getElem hk
    have := it20_1 stdF (look fl) isL isD s s.length k (numV (s.take k)) s[k] (std_lssT (by omega)) (std_leqT (by omega)) hx
    have hc : isDc s[k] = true := (List.all_eq_true.mp hd) _ (List.getElem_mem hk)
    have hc : 48 ≤ Int.ofNat (s[k]).1.1.1 ∧ Int.ofNat (s[k]).1.1.1 ≤ 57 := isDc_iff hc
    have hb := numV_bound k (s.take k) (by rw [List.length_take]; omega) (by rw [List.all_eq_true] at hd ⊢; intro x hx; exact hd x (List.mem_of_mem_take hx))
    have hp : (10 : Int) ^ k ≤ 10 ^ 6 := by
      have : k ≤ 5 := by omega
      rcases k with _ | _ | _ | _ | _ | _ | k <;> first | decide | omega
    have e1 : stdF .ar .sub .u8 (Int.ofNat (s[k]).1.1.1) 48 = Int.ofNat (s[k]).1.1.1 - 48 := std_sub8 (by omega) (by omega)
    have e2 : stdF .wrap .i64 (Int.ofNat (s[k]).1.1.1 - 48) = Int.ofNat (s[k]).1.1.1 - 48 := std_wrap64 (by omega) (by omega)
    have e3 : stdF .ar .mul .i64 10 (numV (s.take k)) = 10 * numV (s.take k) := std_mul (by omega) (by omega)
    have e4 : stdF .ar .add .i64 (10 * numV (s.take k)) (Int.ofNat (s[k]).1.1.1 - 48) = 10 * numV (s.take k) + (Int.ofNat (s[k]).1.1.1 - 48) := std_add (by omega) (by omega)
    have e5 : stdF .ar .add .i64 (k : Int) 1 = ((k + 1 : Nat) : Int) := by rw [std_add (by omega) (by omega)]; rfl
    have e6 : numV (s.take (k + 1)) = 10 * numV (s.take k) + (Int.ofNat (s[k]).1.1.1 - 48) := by
      rw [List.take_add_one, hx]; exact numV_snoc _ _
    rw [e6]
    rw [e1, e2, e3, e4, e5] at this
    exact this
  · rw [← symA_std, List.take_length]
    exact it20_0 stdF (look fl) isL isD s s.length s.length (numV s) (std_lssF (by omega))
theorem run20 (s : List UInt8) (hd : s.all isDc = true) : CallsTo (T (ps isL isD)) ⟨0, 0⟩ 20 [.p (.str s)] [] [] (.tup [.pagg [.int .i64 (numR s).1, .str (numR s).2.1, .int .i64 (numR s).2.2.1, .int .i64 0], .p (.int .i64 (numR s).2.2.2)], [], []) := by
  refine CallsTo.fn okC_none allL_ok (vf := vf20) rfl ?_
  rw [← symA_std]
  by_cases h6 : 6 < s.length
  · have := sem20_0 stdF (look fl) isL isD (allL (T (ps isL isD)) ⟨0, 0⟩) s 0 0 (std_gtrT (by show (6 : Int) < (s.length : Int); omega))
    unfold numR
    rw [if_pos h6]
    exact this
  · have hl := allL_eq (loop20 s (by omega) hd)
    have hg := std_gtrF (a := (s.length : Int)) (b := 6) (by omega)
    unfold numR
    rw [if_neg h6]
    match s, hl, hg with
    | [], hl, hg => exact sem20_1 stdF (look fl) isL isD (allL (T (ps isL isD)) ⟨0, 0⟩) [] (numV []) (0 : Nat) hg (std_gtrF (by show ¬ ((1 : Int) < ((0 : Nat) : Int)); omega)) hl
    | [c], hl, hg => exact sem20_1 stdF (look fl) isL isD (allL (T (ps isL isD)) ⟨0, 0⟩) [c] (numV [c]) (1 : Nat) hg (std_gtrF (by show ¬ ((1 : Int) < ((1 : Nat) : Int)); omega)) hl
    | c :: d :: r, hl, hg =>
      have h1 : stdF .cmp .gtr (Int.ofNat (stdF .slen (c :: d :: r))) 1 = true := std_gtrT (by show (1 : Int) < ((r.length + 1 + 1 : Nat) : Int); omega)
      by_cases hc : c = 48
      · subst hc
        exact sem20_2 stdF (look fl) isL isD (allL (T (ps isL isD)) ⟨0, 0⟩) (48 :: d :: r) 0 0 48 hg h1 (std_leqT (by omega)) rfl rfl
      · simp only [hc, if_false]
        have := sem20_3 stdF (look fl) isL isD (allL (T (ps isL isD)) ⟨0, 0⟩) (c :: d :: r) (numV (c :: d :: r)) ((c :: d :: r).length : Nat) c hg h1 (std_leqT (by omega)) rfl
          (std_eqlF (by intro e; apply hc; apply UInt8.toNat_inj.mp; have : c.toNat = 48 := by exact Int.ofNat.inj e
                        exact this)) hl
        exact this

def qI (G : List UInt8 → Bool) (R : List UInt8 → Int) : List SV → Option SV
  | [.p (.str s)] => match G s with | true => some (.p (.int .i64 (R s))) | false => none
  | _ => none
def qB (G : List UInt8 → Bool) (R : List UInt8 → Bool) : List SV → Option SV
  | [.p (.str s)] => match G s with | true => some (.p (.bool (R s))) | false => none
  | _ => none
def q20 (A : List UInt8 → Bool) (N : List UInt8 → Int × List UInt8 × Int × Int) : List SV → Option SV
  | [.p (.str s)] => match A s with | true => some (.tup [.pagg [.int .i64 (N s).1, .str (N s).2.1, .int .i64 (N s).2.2.1, .int .i64 0], .p (.int .i64 (N s).2.2.2)]) | false => none
  | _ => none
def qX (X : List UInt8 → Int) : List SV → Option SV
  | [.p (.str s), .p (.int .u8 10)] => some (.p (.int .i64 (X s)))
  | _ => none
/-- short enough -/
def okS (s : List UInt8) : Bool := decide (s.length ≤ 10000)
theorem okS_len {s : List UInt8} (h : okS s = true) : s.length ≤ maxLen := by
  have h := of_decide_eq_true h
  have hM : maxLen = 9223372036854775807 := rfl
  omega
theorem p18 : QPrimOk Try.prog 18 (qI okS fun s => (runN s : Int)) := pureQ ps_ok fun args v e => by
  unfold qI at e; split at e
  · split at e
    · rename_i hg
      simp only [Option.some.injEq] at e; subst e
      exact ⟨rfl, rfl, [], [], run18 _ (okS_len hg)⟩
    · simp at e
  · simp at e
theorem p19 : QPrimOk Try.prog 19 (qB okS fun s => s.all isDc) := pureQ ps_ok fun args v e => by
  unfold qB at e; split at e
  · split at e
    · rename_i hg
      simp only [Option.some.injEq] at e; subst e
      exact ⟨rfl, rfl, [], [], run19 _ (okS_len hg)⟩
    · simp at e
  · simp at e
theorem p20 : QPrimOk Try.prog 20 (q20 (fun s => s.all isDc) numR) := pureQ ps_ok fun args v e => by
  unfold q20 at e; split at e
  · split at e
    · rename_i hg
      simp only [Option.some.injEq] at e; subst e
      exact ⟨rfl, rfl, [], [], run20 _ hg⟩
    · simp at e
  · simp at e
/-- where a line ends -/
def nlI (s : List UInt8) : Int := match (List.range s.length).find? fun i => (s.getD i 0) == (10 : UInt8) with | some i => (i : Int) | none => -1
theorem p26 : QPrimOk Try.prog 26 (qX nlI) := prim26.mono fun args v e => by
  unfold qX at e; split at e
  · exact e
  · simp at e
def psX (X : List UInt8 → Int) : List (Nat × Prim) := [(26, .q (qX X))]
theorem psX_ok : PrimOk Try.prog (T (psX nlI)) := prims_q p26 prims_nil
theorem sem23_0 (F : Fns) (fns) (X : List UInt8 → Int) (s : List UInt8)   : @S.fnS (symA F) (T' fns (look (psX X))) (fun _ _ _ _ _ => none) (fun _ _ => none) ⟨0, 0⟩ vf23 [.p (.str s), .p (.int .u8 10)] [] [] = some ((SV.p (PV.int IntKind.i64 (X s)), [], []), []) := by
  cbv
theorem p23 : QPrimOk Try.prog 23 (qX nlI) := pureQ psX_ok fun args v e => by
  unfold qX at e; split at e
  · simp only [Option.some.injEq] at e; subst e
    exact ⟨rfl, rfl, [], [], CallsTo.fn okC_none okL_none (vf := vf23) rfl (by rw [← symA_std]; exact sem23_0 stdF (look fl) nlI _)⟩
  · simp at e
def psX2 (X : List UInt8 → Int) : List (Nat × Prim) := (23, .q (qX X)) :: psX X
theorem psX2_ok : PrimOk Try.prog (T (psX2 nlI)) := prims_q p23 psX_ok
theorem sem17_0 (F : Fns) (fns) (X : List UInt8 → Int) (s : List UInt8)   : @S.fnS (symA F) (T' fns (look (psX2 X))) (fun _ _ _ _ _ => none) (fun _ _ => none) ⟨0, 0⟩ vf17 [.p (.str s), .p (.int .u8 10)] [] [] = some ((SV.p (PV.int IntKind.i64 (X s)), [], []), []) := by
  cbv
theorem p17 : QPrimOk Try.prog 17 (qX nlI) := pureQ psX2_ok fun args v e => by
  unfold qX at e; split at e
  · simp only [Option.some.injEq] at e; subst e
    exact ⟨rfl, rfl, [], [], CallsTo.fn okC_none okL_none (vf := vf17) rfl (by rw [← symA_std]; exact sem17_0 stdF (look fl) nlI _)⟩
  · simp at e
def psX3 (X : List UInt8 → Int) : List (Nat × Prim) := (17, .q (qX X)) :: psX2 X
theorem psX3_ok : PrimOk Try.prog (T (psX3 nlI)) := prims_q p17 psX2_ok
def b13 : VCode := (.seq (.seq (.region none vf13r1 [0, 1, 9] [0, 1, 9]) (.cond (.t 9) .skip (.exit 0))) (.block 1 (.seq (.region none vf13r2 [0, 1, 12] [0, 1, 12]) (.block 2 (.seq (.seq (.region none vf13r3 [0, 1, 12, 14] [0, 1, 12, 14]) (.cond (.t 14) .skip (.seq (.region none vf13r4 [0, 1, 12, 14] [0, 1, 12, 14]) (.cond (.t 14) .skip (.seq (.region none vf13r5 [0, 1, 12, 14] [0, 1, 12, 14]) (.cond (.t 14) .skip (.region none vf13r6 [0, 1, 12, 14] [0, 1, 12, 14]))))))) (.cond (.t 14) (.region none vf13r7 [0, 1] [0, 1]) (.seq (.region none vf13r8 [0, 1, 21] [0, 1, 21]) (.cond (.t 21) (.seq (.region none vf13r9 [0, 1, 5, 26] [0, 1, 5, 26]) (.seq (.seq (.region none vf13r10 [0, 1, 5, 26, 28] [0, 1, 5, 26, 28]) (.cond (.t 28) (.seq (.region none vf13r11 [1, 4, 13, 34] [1, 4, 13, 34]) .ret) .skip)) (.region none vf13r12 [0, 1] [0, 1]))) (.seq (.region none vf13r13 [1, 4, 13, 34] [1, 4, 13, 34]) .ret)))))))))
theorem it13_0 (F : Fns) (fns) (X : List UInt8 → Int) (s : List UInt8) (n : Int)  (h0 : F Fn.cmp BinOp.lss n (Int.ofNat (F Fn.slen s)) = false) : @S.evS (symA F) (T' fns (look (psX3 X))) (fun _ _ _ _ _ => none) (fun _ _ => none) ⟨0, 0⟩ b13 { env := [(0, SV.p (PV.str s)), (1, SV.p (PV.int IntKind.i64 n))], fr := [], hp := [], out := [] } = some (Ex.exit 0, { env := [(0, SV.p (PV.str s)), (1, SV.p (PV.int IntKind.i64 n)), (9, SV.p (PV.bool false))], fr := [], hp := [], out := [] }) := by
  cbv
  rw [h0]
  cbv
theorem it13_1 (F : Fns) (fns) (X : List UInt8 → Int) (s : List UInt8) (n : Int) (x0 : UInt8) (h0 : F Fn.cmp BinOp.lss n (Int.ofNat (F Fn.slen s)) = true) (h1 : F Fn.cmp BinOp.leq 0 n = true) (h2 : F Fn.sget s (F Fn.toN n) = some x0) (h3 : F Fn.cmp BinOp.eql (Int.ofNat x0.1.1.1) 32 = true) : @S.evS (symA F) (T' fns (look (psX3 X))) (fun _ _ _ _ _ => none) (fun _ _ => none) ⟨0, 0⟩ b13 { env := [(0, SV.p (PV.str s)), (1, SV.p (PV.int IntKind.i64 n))], fr := [], hp := [], out := [] } = some (Ex.normal, { env := [(0, SV.p (PV.str s)), (1, SV.p (PV.int IntKind.i64 (F Fn.ar BinOp.add IntKind.i64 n 1)))], fr := [], hp := [], out := [] }) := by
  cbv
  rw [h0]
  cbv
  rw [h1]
  cbv
  rw [h2]
  cbv
  rw [h3]
  cbv
theorem it13_2 (F : Fns) (fns) (X : List UInt8 → Int) (s : List UInt8) (n : Int) (x0 : UInt8) (h0 : F Fn.cmp BinOp.lss n (Int.ofNat (F Fn.slen s)) = true) (h1 : F Fn.cmp BinOp.leq 0 n = true) (h2 : F Fn.sget s (F Fn.toN n) = some x0) (h3 : F Fn.cmp BinOp.eql (Int.ofNat x0.1.1.1) 32 = false) (h4 : F Fn.cmp BinOp.eql (Int.ofNat x0.1.1.1) 9 = true) : @S.evS (symA F) (T' fns (look (psX3 X))) (fun _ _ _ _ _ => none) (fun _ _ => none) ⟨0, 0⟩ b13 { env := [(0, SV.p (PV.str s)), (1, SV.p (PV.int IntKind.i64 n))], fr := [], hp := [], out := [] } = some (Ex.normal, { env := [(0, SV.p (PV.str s)), (1, SV.p (PV.int IntKind.i64 (F Fn.ar BinOp.add IntKind.i64 n 1)))], fr := [], hp := [], out := [] }) := by
  cbv
  rw [h0]
  cbv
  rw [h1]
  cbv
  rw [h2]
  cbv
  rw [h3]
  cbv
  rw [h4]
  cbv
theorem it13_3 (F : Fns) (fns) (X : List UInt8 → Int) (s : List UInt8) (n : Int) (x0 : UInt8) (h0 : F Fn.cmp BinOp.lss n (Int.ofNat (F Fn.slen s)) = true) (h1 : F Fn.cmp BinOp.leq 0 n = true) (h2 : F Fn.sget s (F Fn.toN n) = some x0) (h3 : F Fn.cmp BinOp.eql (Int.ofNat x0.1.1.1) 32 = false) (h4 : F Fn.cmp BinOp.eql (Int.ofNat x0.1.1.1) 9 = false) (h5 : F Fn.cmp BinOp.eql (Int.ofNat x0.1.1.1) 10 = true) : @S.evS (symA F) (T' fns (look (psX3 X))) (fun _ _ _ _ _ => none) (fun _ _ => none) ⟨0, 0⟩ b13 { env := [(0, SV.p (PV.str s)), (1, SV.p (PV.int IntKind.i64 n))], fr := [], hp := [], out := [] } = some (Ex.normal, { env := [(0, SV.p (PV.str s)), (1, SV.p (PV.int IntKind.i64 (F Fn.ar BinOp.add IntKind.i64 n 1)))], fr := [], hp := [], out := [] }) := by
  cbv
  rw [h0]
  cbv
  rw [h1]
  cbv
  rw [h2]
  cbv
  rw [h3]
  cbv
  rw [h4]
  cbv
  rw [h5]
  cbv
theorem it13_4 (F : Fns) (fns) (X : List UInt8 → Int) (s : List UInt8) (n : Int) (x0 : UInt8) (h0 : F Fn.cmp BinOp.lss n (Int.ofNat (F Fn.slen s)) = true) (h1 : F Fn.cmp BinOp.leq 0 n = true) (h2 : F Fn.sget s (F Fn.toN n) = some x0) (h3 : F Fn.cmp BinOp.eql (Int.ofNat x0.1.1.1) 32 = false) (h4 : F Fn.cmp BinOp.eql (Int.ofNat x0.1.1.1) 9 = false) (h5 : F Fn.cmp BinOp.eql (Int.ofNat x0.1.1.1) 10 = false) (h6 : F Fn.cmp BinOp.eql (Int.ofNat x0.1.1.1) 13 = true) : @S.evS (symA F) (T' fns (look (psX3 X))) (fun _ _ _ _ _ => none) (fun _ _ => none) ⟨0, 0⟩ b13 { env := [(0, SV.p (PV.str s)), (1, SV.p (PV.int IntKind.i64 n))], fr := [], hp := [], out := [] } = some (Ex.normal, { env := [(0, SV.p (PV.str s)), (1, SV.p (PV.int IntKind.i64 (F Fn.ar BinOp.add IntKind.i64 n 1)))], fr := [], hp := [], out := [] }) := by
  cbv
  rw [h0]
  cbv
  rw [h1]
  cbv
  rw [h2]
  cbv
  rw [h3]
  cbv
  rw [h4]
  cbv
  rw [h5]
  cbv
  rw [h6]
  cbv
theorem it13_5 (F : Fns) (fns) (X : List UInt8 → Int) (s : List UInt8) (n : Int) (x0 : UInt8) (h0 : F Fn.cmp BinOp.lss n (Int.ofNat (F Fn.slen s)) = true) (h1 : F Fn.cmp BinOp.leq 0 n = true) (h2 : F Fn.sget s (F Fn.toN n) = some x0) (h3 : F Fn.cmp BinOp.eql (Int.ofNat x0.1.1.1) 32 = false) (h4 : F Fn.cmp BinOp.eql (Int.ofNat x0.1.1.1) 9 = false) (h5 : F Fn.cmp BinOp.eql (Int.ofNat x0.1.1.1) 10 = false) (h6 : F Fn.cmp BinOp.eql (Int.ofNat x0.1.1.1) 13 = false) (h7 : F Fn.cmp BinOp.eql (Int.ofNat x0.1.1.1) 35 = false) : @S.evS (symA F) (T' fns (look (psX3 X))) (fun _ _ _ _ _ => none) (fun _ _ => none) ⟨0, 0⟩ b13 { env := [(0, SV.p (PV.str s)), (1, SV.p (PV.int IntKind.i64 n))], fr := [], hp := [], out := [] } = some (Ex.ret, { env := [(1, SV.p (PV.int IntKind.i64 n)), (4, SV.p (PV.int IntKind.i64 n)), (13, SV.p (PV.int IntKind.i64 n)), (34, SV.undef)], fr := [], hp := [], out := [] }) := by
  cbv
  rw [h0]
  cbv
  rw [h1]
  cbv
  rw [h2]
  cbv
  rw [h3]
  cbv
  rw [h4]
  cbv
  rw [h5]
  cbv
  rw [h6]
  cbv
  rw [h7]
  cbv
theorem it13_6 (F : Fns) (fns) (X : List UInt8 → Int) (s : List UInt8) (n : Int) (x0 : UInt8) (h0 : F Fn.cmp BinOp.lss n (Int.ofNat (F Fn.slen s)) = true) (h1 : F Fn.cmp BinOp.leq 0 n = true) (h2 : F Fn.sget s (F Fn.toN n) = some x0) (h3 : F Fn.cmp BinOp.eql (Int.ofNat x0.1.1.1) 32 = false) (h4 : F Fn.cmp BinOp.eql (Int.ofNat x0.1.1.1) 9 = false) (h5 : F Fn.cmp BinOp.eql (Int.ofNat x0.1.1.1) 10 = false) (h6 : F Fn.cmp BinOp.eql (Int.ofNat x0.1.1.1) 13 = false) (h7 : F Fn.cmp BinOp.eql (Int.ofNat x0.1.1.1) 35 = true) (h8 : F Fn.cmp BinOp.leq 0 n = true) (h9 : F Fn.le (F Fn.toN n) (F Fn.slen s) = true) (h10 : F Fn.le (F Fn.slen s) (F Fn.slen s) = true) (h11 : F Fn.cmp BinOp.lss (X (F Fn.scut s (F Fn.toN n) (F Fn.slen s))) 0 = true) : @S.evS (symA F) (T' fns (look (psX3 X))) (fun _ _ _ _ _ => none) (fun _ _ => none) ⟨0, 0⟩ b13 { env := [(0, SV.p (PV.str s)), (1, SV.p (PV.int IntKind.i64 n))], fr := [], hp := [], out := [] } = some (Ex.ret, { env := [(1, SV.p (PV.int IntKind.i64 n)), (4, SV.p (PV.int IntKind.i64 (Int.ofNat (F Fn.slen s)))), (13, SV.undef), (34, SV.undef)], fr := [], hp := [], out := [] }) := by
  cbv
  rw [h0]
  cbv
  rw [h1]
  cbv
  rw [h2]
  cbv
  rw [h3]
  cbv
  rw [h4]
  cbv
  rw [h5]
  cbv
  rw [h6]
  cbv
  rw [h7]
  cbv
  rw [h8]
  cbv
  rw [h9]
  cbv
  rw [h10]
  cbv
  rw [h11]
  cbv
theorem it13_7 (F : Fns) (fns) (X : List UInt8 → Int) (s : List UInt8) (n : Int) (x0 : UInt8) (h0 : F Fn.cmp BinOp.lss n (Int.ofNat (F Fn.slen s)) = true) (h1 : F Fn.cmp BinOp.leq 0 n = true) (h2 : F Fn.sget s (F Fn.toN n) = some x0) (h3 : F Fn.cmp BinOp.eql (Int.ofNat x0.1.1.1) 32 = false) (h4 : F Fn.cmp BinOp.eql (Int.ofNat x0.1.1.1) 9 = false) (h5 : F Fn.cmp BinOp.eql (Int.ofNat x0.1.1.1) 10 = false) (h6 : F Fn.cmp BinOp.eql (Int.ofNat x0.1.1.1) 13 = false) (h7 : F Fn.cmp BinOp.eql (Int.ofNat x0.1.1.1) 35 = true) (h8 : F Fn.cmp BinOp.leq 0 n = true) (h9 : F Fn.le (F Fn.toN n) (F Fn.slen s) = true) (h10 : F Fn.le (F Fn.slen s) (F Fn.slen s) = true) (h11 : F Fn.cmp BinOp.lss (X (F Fn.scut s (F Fn.toN n) (F Fn.slen s))) 0 = false) : @S.evS (symA F) (T' fns (look (psX3 X))) (fun _ _ _ _ _ => none) (fun _ _ => none) ⟨0, 0⟩ b13 { env := [(0, SV.p (PV.str s)), (1, SV.p (PV.int IntKind.i64 n))], fr := [], hp := [], out := [] } = some (Ex.normal, { env := [(0, SV.p (PV.str s)), (1, SV.p (PV.int IntKind.i64 (F Fn.ar BinOp.add IntKind.i64 n (X (F Fn.scut s (F Fn.toN n) (F Fn.slen s))))))], fr := [], hp := [], out := [] }) := by
  cbv
  rw [h0]
  cbv
  rw [h1]
  cbv
  rw [h2]
  cbv
  rw [h3]
  cbv
  rw [h4]
  cbv
  rw [h5]
  cbv
  rw [h6]
  cbv
  rw [h7]
  cbv
  rw [h8]
  cbv
  rw [h9]
  cbv
  rw [h10]
  cbv
  rw [h11]
  cbv
theorem sem13a_0 (F : Fns) (fns) (X : List UInt8 → Int)  (Lp : VCode → St → Option (Ex × St)) (s : List UInt8) (n v m : Int)  (h0 : Lp (((VCode.region none [{ dst := some 6, op := VOp.mv (Opd.t 1), after := [], guard := none }, { dst := some 7, op := VOp.mv (Opd.t 0), after := [], guard := none }, { dst := some 8, op := VOp.len true (Opd.t 7), after := [1], guard := none }, { dst := some 9, op := VOp.bin BinOp.lss Ek.no (Opd.t 6) (Opd.t 8), after := [0, 2], guard := none }] [0, 1, 9] [0, 1, 9]).seq (VCode.cond (Opd.t 9) VCode.skip (VCode.exit 0))).seq (VCode.block 1 ((VCode.region none [{ dst := some 10, op := VOp.mv (Opd.t 0), after := [], guard := none }, { dst := some 11, op := VOp.mv (Opd.t 1), after := [], guard := none }, { dst := some 12, op := VOp.idxS (Opd.t 10) (Opd.t 11), after := [0, 1], guard := none }] [0, 1, 12] [0, 1, 12]).seq (VCode.block 2 (((VCode.region none [{ dst := some 15, op := VOp.bin BinOp.eql Ek.no (Opd.t 12) (Opd.c (SV.p (PV.int IntKind.u8 32))), after := [], guard := none }, { dst := some 14, op := VOp.asg (Opd.t 15), after := [0], guard := none }] [0, 1, 12, 14] [0, 1, 12, 14]).seq (VCode.cond (Opd.t 14) VCode.skip ((VCode.region none [{ dst := some 16, op := VOp.bin BinOp.eql Ek.no (Opd.t 12) (Opd.c (SV.p (PV.int IntKind.u8 9))), after := [], guard := none }, { dst := some 14, op := VOp.asg (Opd.t 16), after := [0], guard := none }] [0, 1, 12, 14] [0, 1, 12, 14]).seq (VCode.cond (Opd.t 14) VCode.skip ((VCode.region none [{ dst := some 17, op := VOp.bin BinOp.eql Ek.no (Opd.t 12) (Opd.c (SV.p (PV.int IntKind.u8 10))), after := [], guard := none }, { dst := some 14, op := VOp.asg (Opd.t 17), after := [0], guard := none }] [0, 1, 12, 14] [0, 1, 12, 14]).seq (VCode.cond (Opd.t 14) VCode.skip (VCode.region none [{ dst := some 18, op := VOp.bin BinOp.eql Ek.no (Opd.t 12) (Opd.c (SV.p (PV.int IntKind.u8 13))), after := [], guard := none }, { dst := some 14, op := VOp.asg (Opd.t 18), after := [0], guard := none }] [0, 1, 12, 14] [0, 1, 12, 14]))))))).seq (VCode.cond (Opd.t 14) (VCode.region none [{ dst := some 19, op := VOp.mv (Opd.t 1), after := [], guard := none }, { dst := some 20, op := VOp.bin BinOp.add Ek.no (Opd.t 19) (Opd.c (SV.p (PV.int IntKind.i64 1))), after := [0], guard := none }, { dst := some 1, op := VOp.asg (Opd.t 20), after := [1, 0, 1], guard := none }] [0, 1] [0, 1]) ((VCode.region none [{ dst := some 22, op := VOp.bin BinOp.eql Ek.no (Opd.t 12) (Opd.c (SV.p (PV.int IntKind.u8 35))), after := [], guard := none }, { dst := some 21, op := VOp.asg (Opd.t 22), after := [0], guard := none }] [0, 1, 21] [0, 1, 21]).seq (VCode.cond (Opd.t 21) ((VCode.region none [{ dst := some 23, op := VOp.mv (Opd.t 0), after := [], guard := none }, { dst := some 24, op := VOp.mv (Opd.t 1), after := [], guard := none }, { dst := some 25, op := VOp.slc true 1 (Opd.t 23) (some (Opd.t 24)) none none, after := [0, 1], guard := none }, { dst := some 26, op := VOp.call 17 [Opd.t 25, Opd.c (SV.p (PV.int IntKind.u8 10))], after := [2], guard := none }, { dst := some 5, op := VOp.asg (Opd.t 26), after := [3, 3, 0, 1, 2, 3], guard := none }] [0, 1, 5, 26] [0, 1, 5, 26]).seq (((VCode.region none [{ dst := some 27, op := VOp.mv (Opd.t 5), after := [], guard := none }, { dst := some 28, op := VOp.bin BinOp.lss Ek.no (Opd.t 27) (Opd.c (SV.p (PV.int IntKind.i64 0))), after := [0], guard := none }] [0, 1, 5, 26, 28] [0, 1, 5, 26, 28]).seq (VCode.cond (Opd.t 28) ((VCode.region none [{ dst := some 29, op := VOp.mv (Opd.t 0), after := [], guard := none }, { dst := some 30, op := VOp.len true (Opd.t 29), after := [0], guard := none }, { dst := some 4, op := VOp.asg (Opd.t 30), after := [1, 0, 1], guard := none }] [1, 4, 13, 34] [1, 4, 13, 34]).seq VCode.ret) VCode.skip)).seq (VCode.region none [{ dst := some 31, op := VOp.mv (Opd.t 1), after := [], guard := none }, { dst := some 32, op := VOp.mv (Opd.t 5), after := [], guard := none }, { dst := some 33, op := VOp.bin BinOp.add Ek.no (Opd.t 31) (Opd.t 32), after := [0, 1], guard := none }, { dst := some 1, op := VOp.asg (Opd.t 33), after := [2, 0, 1, 2], guard := none }] [0, 1] [0, 1]))) ((VCode.region none [{ dst := some 13, op := VOp.mv (Opd.t 1), after := [], guard := none }, { dst := some 4, op := VOp.asg (Opd.t 13), after := [0, 0], guard := none }] [1, 4, 13, 34] [1, 4, 13, 34]).seq VCode.ret))))))))) { env := [(0, SV.p (PV.str s)), (1, SV.p (PV.int IntKind.i64 n))], fr := [], hp := [], out := [] } = some (Ex.exit 0, { env := [(0, SV.p (PV.str s)), (1, SV.p (PV.int IntKind.i64 v)), (9, SV.p (PV.bool false))], fr := [], hp := [], out := [] })) : @S.fnS (symA F) (T' fns (look (psX3 X))) (fun _ _ _ _ _ => none) Lp ⟨0, 0⟩ vf13 [.p (.str s), .p (.int .i64 n)] [] [] = some ((SV.p (PV.int IntKind.i64 v), [], []), []) := by
  cbv
  rw [h0]
  cbv
theorem sem13b_0 (F : Fns) (fns) (X : List UInt8 → Int)  (Lp : VCode → St → Option (Ex × St)) (s : List UInt8) (n v m : Int)  (h0 : Lp (((VCode.region none [{ dst := some 6, op := VOp.mv (Opd.t 1), after := [], guard := none }, { dst := some 7, op := VOp.mv (Opd.t 0), after := [], guard := none }, { dst := some 8, op := VOp.len true (Opd.t 7), after := [1], guard := none }, { dst := some 9, op := VOp.bin BinOp.lss Ek.no (Opd.t 6) (Opd.t 8), after := [0, 2], guard := none }] [0, 1, 9] [0, 1, 9]).seq (VCode.cond (Opd.t 9) VCode.skip (VCode.exit 0))).seq (VCode.block 1 ((VCode.region none [{ dst := some 10, op := VOp.mv (Opd.t 0), after := [], guard := none }, { dst := some 11, op := VOp.mv (Opd.t 1), after := [], guard := none }, { dst := some 12, op := VOp.idxS (Opd.t 10) (Opd.t 11), after := [0, 1], guard := none }] [0, 1, 12] [0, 1, 12]).seq (VCode.block 2 (((VCode.region none [{ dst := some 15, op := VOp.bin BinOp.eql Ek.no (Opd.t 12) (Opd.c (SV.p (PV.int IntKind.u8 32))), after := [], guard := none }, { dst := some 14, op := VOp.asg (Opd.t 15), after := [0], guard := none }] [0, 1, 12, 14] [0, 1, 12, 14]).seq (VCode.cond (Opd.t 14) VCode.skip ((VCode.region none [{ dst := some 16, op := VOp.bin BinOp.eql Ek.no (Opd.t 12) (Opd.c (SV.p (PV.int IntKind.u8 9))), after := [], guard := none }, { dst := some 14, op := VOp.asg (Opd.t 16), after := [0], guard := none }] [0, 1, 12, 14] [0, 1, 12, 14]).seq (VCode.cond (Opd.t 14) VCode.skip ((VCode.region none [{ dst := some 17, op := VOp.bin BinOp.eql Ek.no (Opd.t 12) (Opd.c (SV.p (PV.int IntKind.u8 10))), after := [], guard := none }, { dst := some 14, op := VOp.asg (Opd.t 17), after := [0], guard := none }] [0, 1, 12, 14] [0, 1, 12, 14]).seq (VCode.cond (Opd.t 14) VCode.skip (VCode.region none [{ dst := some 18, op := VOp.bin BinOp.eql Ek.no (Opd.t 12) (Opd.c (SV.p (PV.int IntKind.u8 13))), after := [], guard := none }, { dst := some 14, op := VOp.asg (Opd.t 18), after := [0], guard := none }] [0, 1, 12, 14] [0, 1, 12, 14]))))))).seq (VCode.cond (Opd.t 14) (VCode.region none [{ dst := some 19, op := VOp.mv (Opd.t 1), after := [], guard := none }, { dst := some 20, op := VOp.bin BinOp.add Ek.no (Opd.t 19) (Opd.c (SV.p (PV.int IntKind.i64 1))), after := [0], guard := none }, { dst := some 1, op := VOp.asg (Opd.t 20), after := [1, 0, 1], guard := none }] [0, 1] [0, 1]) ((VCode.region none [{ dst := some 22, op := VOp.bin BinOp.eql Ek.no (Opd.t 12) (Opd.c (SV.p (PV.int IntKind.u8 35))), after := [], guard := none }, { dst := some 21, op := VOp.asg (Opd.t 22), after := [0], guard := none }] [0, 1, 21] [0, 1, 21]).seq (VCode.cond (Opd.t 21) ((VCode.region none [{ dst := some 23, op := VOp.mv (Opd.t 0), after := [], guard := none }, { dst := some 24, op := VOp.mv (Opd.t 1), after := [], guard := none }, { dst := some 25, op := VOp.slc true 1 (Opd.t 23) (some (Opd.t 24)) none none, after := [0, 1], guard := none }, { dst := some 26, op := VOp.call 17 [Opd.t 25, Opd.c (SV.p (PV.int IntKind.u8 10))], after := [2], guard := none }, { dst := some 5, op := VOp.asg (Opd.t 26), after := [3, 3, 0, 1, 2, 3], guard := none }] [0, 1, 5, 26] [0, 1, 5, 26]).seq (((VCode.region none [{ dst := some 27, op := VOp.mv (Opd.t 5), after := [], guard := none }, { dst := some 28, op := VOp.bin BinOp.lss Ek.no (Opd.t 27) (Opd.c (SV.p (PV.int IntKind.i64 0))), after := [0], guard := none }] [0, 1, 5, 26, 28] [0, 1, 5, 26, 28]).seq (VCode.cond (Opd.t 28) ((VCode.region none [{ dst := some 29, op := VOp.mv (Opd.t 0), after := [], guard := none }, { dst := some 30, op := VOp.len true (Opd.t 29), after := [0], guard := none }, { dst := some 4, op := VOp.asg (Opd.t 30), after := [1, 0, 1], guard := none }] [1, 4, 13, 34] [1, 4, 13, 34]).seq VCode.ret) VCode.skip)).seq (VCode.region none [{ dst := some 31, op := VOp.mv (Opd.t 1), after := [], guard := none }, { dst := some 32, op := VOp.mv (Opd.t 5), after := [], guard := none }, { dst := some 33, op := VOp.bin BinOp.add Ek.no (Opd.t 31) (Opd.t 32), after := [0, 1], guard := none }, { dst := some 1, op := VOp.asg (Opd.t 33), after := [2, 0, 1, 2], guard := none }] [0, 1] [0, 1]))) ((VCode.region none [{ dst := some 13, op := VOp.mv (Opd.t 1), after := [], guard := none }, { dst := some 4, op := VOp.asg (Opd.t 13), after := [0, 0], guard := none }] [1, 4, 13, 34] [1, 4, 13, 34]).seq VCode.ret))))))))) { env := [(0, SV.p (PV.str s)), (1, SV.p (PV.int IntKind.i64 n))], fr := [], hp := [], out := [] } = some (Ex.ret, { env := [(1, SV.p (PV.int IntKind.i64 v)), (4, SV.p (PV.int IntKind.i64 v)), (13, SV.p (PV.int IntKind.i64 v)), (34, SV.undef)], fr := [], hp := [], out := [] })) : @S.fnS (symA F) (T' fns (look (psX3 X))) (fun _ _ _ _ _ => none) Lp ⟨0, 0⟩ vf13 [.p (.str s), .p (.int .i64 n)] [] [] = some ((SV.p (PV.int IntKind.i64 v), [], []), []) := by
  cbv
  rw [h0]
  cbv
theorem sem13c_0 (F : Fns) (fns) (X : List UInt8 → Int)  (Lp : VCode → St → Option (Ex × St)) (s : List UInt8) (n v m : Int)  (h0 : Lp (((VCode.region none [{ dst := some 6, op := VOp.mv (Opd.t 1), after := [], guard := none }, { dst := some 7, op := VOp.mv (Opd.t 0), after := [], guard := none }, { dst := some 8, op := VOp.len true (Opd.t 7), after := [1], guard := none }, { dst := some 9, op := VOp.bin BinOp.lss Ek.no (Opd.t 6) (Opd.t 8), after := [0, 2], guard := none }] [0, 1, 9] [0, 1, 9]).seq (VCode.cond (Opd.t 9) VCode.skip (VCode.exit 0))).seq (VCode.block 1 ((VCode.region none [{ dst := some 10, op := VOp.mv (Opd.t 0), after := [], guard := none }, { dst := some 11, op := VOp.mv (Opd.t 1), after := [], guard := none }, { dst := some 12, op := VOp.idxS (Opd.t 10) (Opd.t 11), after := [0, 1], guard := none }] [0, 1, 12] [0, 1, 12]).seq (VCode.block 2 (((VCode.region none [{ dst := some 15, op := VOp.bin BinOp.eql Ek.no (Opd.t 12) (Opd.c (SV.p (PV.int IntKind.u8 32))), after := [], guard := none }, { dst := some 14, op := VOp.asg (Opd.t 15), after := [0], guard := none }] [0, 1, 12, 14] [0, 1, 12, 14]).seq (VCode.cond (Opd.t 14) VCode.skip ((VCode.region none [{ dst := some 16, op := VOp.bin BinOp.eql Ek.no (Opd.t 12) (Opd.c (SV.p (PV.int IntKind.u8 9))), after := [], guard := none }, { dst := some 14, op := VOp.asg (Opd.t 16), after := [0], guard := none }] [0, 1, 12, 14] [0, 1, 12, 14]).seq (VCode.cond (Opd.t 14) VCode.skip ((VCode.region none [{ dst := some 17, op := VOp.bin BinOp.eql Ek.no (Opd.t 12) (Opd.c (SV.p (PV.int IntKind.u8 10))), after := [], guard := none }, { dst := some 14, op := VOp.asg (Opd.t 17), after := [0], guard := none }] [0, 1, 12, 14] [0, 1, 12, 14]).seq (VCode.cond (Opd.t 14) VCode.skip (VCode.region none [{ dst := some 18, op := VOp.bin BinOp.eql Ek.no (Opd.t 12) (Opd.c (SV.p (PV.int IntKind.u8 13))), after := [], guard := none }, { dst := some 14, op := VOp.asg (Opd.t 18), after := [0], guard := none }] [0, 1, 12, 14] [0, 1, 12, 14]))))))).seq (VCode.cond (Opd.t 14) (VCode.region none [{ dst := some 19, op := VOp.mv (Opd.t 1), after := [], guard := none }, { dst := some 20, op := VOp.bin BinOp.add Ek.no (Opd.t 19) (Opd.c (SV.p (PV.int IntKind.i64 1))), after := [0], guard := none }, { dst := some 1, op := VOp.asg (Opd.t 20), after := [1, 0, 1], guard := none }] [0, 1] [0, 1]) ((VCode.region none [{ dst := some 22, op := VOp.bin BinOp.eql Ek.no (Opd.t 12) (Opd.c (SV.p (PV.int IntKind.u8 35))), after := [], guard := none }, { dst := some 21, op := VOp.asg (Opd.t 22), after := [0], guard := none }] [0, 1, 21] [0, 1, 21]).seq (VCode.cond (Opd.t 21) ((VCode.region none [{ dst := some 23, op := VOp.mv (Opd.t 0), after := [], guard := none }, { dst := some 24, op := VOp.mv (Opd.t 1), after := [], guard := none }, { dst := some 25, op := VOp.slc true 1 (Opd.t 23) (some (Opd.t 24)) none none, after := [0, 1], guard := none }, { dst := some 26, op := VOp.call 17 [Opd.t 25, Opd.c (SV.p (PV.int IntKind.u8 10))], after := [2], guard := none }, { dst := some 5, op := VOp.asg (Opd.t 26), after := [3, 3, 0, 1, 2, 3], guard := none }] [0, 1, 5, 26] [0, 1, 5, 26]).seq (((VCode.region none [{ dst := some 27, op := VOp.mv (Opd.t 5), after := [], guard := none }, { dst := some 28, op := VOp.bin BinOp.lss Ek.no (Opd.t 27) (Opd.c (SV.p (PV.int IntKind.i64 0))), after := [0], guard := none }] [0, 1, 5, 26, 28] [0, 1, 5, 26, 28]).seq (VCode.cond (Opd.t 28) ((VCode.region none [{ dst := some 29, op := VOp.mv (Opd.t 0), after := [], guard := none }, { dst := some 30, op := VOp.len true (Opd.t 29), after := [0], guard := none }, { dst := some 4, op := VOp.asg (Opd.t 30), after := [1, 0, 1], guard := none }] [1, 4, 13, 34] [1, 4, 13, 34]).seq VCode.ret) VCode.skip)).seq (VCode.region none [{ dst := some 31, op := VOp.mv (Opd.t 1), after := [], guard := none }, { dst := some 32, op := VOp.mv (Opd.t 5), after := [], guard := none }, { dst := some 33, op := VOp.bin BinOp.add Ek.no (Opd.t 31) (Opd.t 32), after := [0, 1], guard := none }, { dst := some 1, op := VOp.asg (Opd.t 33), after := [2, 0, 1, 2], guard := none }] [0, 1] [0, 1]))) ((VCode.region none [{ dst := some 13, op := VOp.mv (Opd.t 1), after := [], guard := none }, { dst := some 4, op := VOp.asg (Opd.t 13), after := [0, 0], guard := none }] [1, 4, 13, 34] [1, 4, 13, 34]).seq VCode.ret))))))))) { env := [(0, SV.p (PV.str s)), (1, SV.p (PV.int IntKind.i64 n))], fr := [], hp := [], out := [] } = some (Ex.ret, { env := [(1, SV.p (PV.int IntKind.i64 m)), (4, SV.p (PV.int IntKind.i64 v)), (13, SV.undef), (34, SV.undef)], fr := [], hp := [], out := [] })) : @S.fnS (symA F) (T' fns (look (psX3 X))) (fun _ _ _ _ _ => none) Lp ⟨0, 0⟩ vf13 [.p (.str s), .p (.int .i64 n)] [] [] = some ((SV.p (PV.int IntKind.i64 v), [], []), []) := by
  cbv
  rw [h0]
  cbv

/-- blank letters -/
def isB (c : UInt8) : Bool := c == 32 || c == 9 || c == 10 || c == 13
/-- how much is blank, within a remark or not -/
def blankF : Bool → List UInt8 → Nat
  | _, [] => 0
  | true, c :: r => 1 + blankF (c != 10) r
  | false, c :: r => if isB c then 1 + blankF false r else if c = 35 then 1 + blankF true r else 0
theorem blankF_le : ∀ (s : List UInt8) (b : Bool), blankF b s ≤ s.length
  | [], b => by cases b <;> simp [blankF]
  | c :: r, true => by simp only [blankF, List.length_cons]; have := blankF_le r (c != 10); omega
  | c :: r, false => by
    simp only [blankF, List.length_cons]
    have h1 := blankF_le r false
    have h2 := blankF_le r true
    split
    · omega
    · split <;> omega
theorem nlI_cons (c : UInt8) (r : List UInt8) : nlI (c :: r) = if c = 10 then 0 else if nlI r < 0 then -1 else nlI r + 1 := by
  unfold nlI
  rw [List.length_cons, List.range_succ_eq_map, List.find?_cons, List.find?_map]
  by_cases hc : c = 10
  · subst hc; rfl
  · have h0 : ((c :: r).getD 0 0 == (10 : UInt8)) = false := by simpa using hc
    rw [h0, if_neg hc]
    have e : ((fun i => (c :: r).getD i 0 == (10 : UInt8)) ∘ Nat.succ) = fun i => r.getD i 0 == (10 : UInt8) := by funext i; rfl
    rw [e]
    cases h : (List.range r.length).find? (fun i => r.getD i 0 == (10 : UInt8)) with
    | none => rfl
    | some i => simp only [Option.map_some]; rw [if_neg (by omega)]; simp
theorem nlI_nil : nlI [] = -1 := rfl
theorem nlI_neg : ∀ (s : List UInt8), nlI s < 0 → blankF true s = s.length
  | [], _ => rfl
  | c :: r, h => by
    rw [nlI_cons] at h
    split at h
    · omega
    · rename_i hc
      split at h
      · rename_i h'
        have := nlI_neg r h'
        simp only [blankF, List.length_cons]
        rw [show (c != 10) = true by simpa using hc, this]; omega
      · omega
theorem nlI_pos : ∀ (s : List UInt8), 0 ≤ nlI s → ∃ e : Nat, nlI s = e ∧ e < s.length ∧ blankF true s = e + blankF false (s.drop e) ∧ s[e]? = some 10
  | [], h => by rw [nlI_nil] at h; omega
  | c :: r, h => by
    rw [nlI_cons] at h ⊢
    by_cases hc : c = 10
    · subst hc
      exact ⟨0, by simp, by simp, by simp [blankF, isB], rfl⟩
    · rw [if_neg hc] at h ⊢
      split at h
      · omega
      · rename_i h'
        obtain ⟨e, h1, h2, h3, h4⟩ := nlI_pos r (by omega)
        refine ⟨e + 1, by rw [if_neg h', h1]; rfl, by simp; omega, ?_, by simpa using h4⟩
        simp only [blankF, List.drop_succ_cons]
        rw [show (c != 10) = true by simpa using hc, h3]; omega
theorem u8_eq {c : UInt8} {n : Nat} (h : c = UInt8.ofNat n) (hn : n < 256) : stdF .cmp .eql (Int.ofNat c.1.1.1) (n : Int) = true := by
  refine std_eqlT ?_
  subst h
  show Int.ofNat (UInt8.ofNat n).toNat = (n : Int)
  rw [UInt8.toNat_ofNat', Nat.mod_eq_of_lt hn]; rfl
theorem u8_ne {c : UInt8} {n : Nat} (h : c ≠ UInt8.ofNat n) (hn : n < 256) : stdF .cmp .eql (Int.ofNat c.1.1.1) (n : Int) = false := by
  refine std_eqlF ?_
  intro e
  apply h
  have e : c.toNat = n := Int.ofNat.inj e
  apply UInt8.toNat_inj.mp
  rw [UInt8.toNat_ofNat', Nat.mod_eq_of_lt hn, e]
theorem loop13 (s : List UInt8) (hs : okS s = true) : ∀ a, a ≤ s.length → ∃ r, ExecTo (T (psX3 nlI)) ⟨0, 0⟩ (.loop b13) { env := [(0, SV.p (PV.str s)), (1, SV.p (PV.int IntKind.i64 (a : Int)))], fr := [], hp := [], out := [] } r ∧ (r = (Ex.exit 0, { env := [(0, SV.p (PV.str s)), (1, SV.p (PV.int IntKind.i64 ((a : Int) + (blankF false (s.drop a) : Nat)))), (9, SV.p (PV.bool false))], fr := [], hp := [], out := [] }) ∨ r = (Ex.ret, { env := [(1, SV.p (PV.int IntKind.i64 ((a : Int) + (blankF false (s.drop a) : Nat)))), (4, SV.p (PV.int IntKind.i64 ((a : Int) + (blankF false (s.drop a) : Nat)))), (13, SV.p (PV.int IntKind.i64 ((a : Int) + (blankF false (s.drop a) : Nat)))), (34, SV.undef)], fr := [], hp := [], out := [] }) ∨ ∃ m : Int, r = (Ex.ret, { env := [(1, SV.p (PV.int IntKind.i64 m)), (4, SV.p (PV.int IntKind.i64 ((a : Int) + (blankF false (s.drop a) : Nat)))), (13, SV.undef), (34, SV.undef)], fr := [], hp := [], out := [] })) := by
  have hM := of_decide_eq_true hs
  refine loop_rel (α := Nat) (c := fun _ _ _ _ _ => none) (Lp := fun _ _ => none) okC_none okL_none (fun a => { env := [(0, SV.p (PV.str s)), (1, SV.p (PV.int IntKind.i64 (a : Int)))], fr := [], hp := [], out := [] }) (fun a => s.length - a)
    (fun a r => r = (Ex.exit 0, { env := [(0, SV.p (PV.str s)), (1, SV.p (PV.int IntKind.i64 ((a : Int) + (blankF false (s.drop a) : Nat)))), (9, SV.p (PV.bool false))], fr := [], hp := [], out := [] }) ∨ r = (Ex.ret, { env := [(1, SV.p (PV.int IntKind.i64 ((a : Int) + (blankF false (s.drop a) : Nat)))), (4, SV.p (PV.int IntKind.i64 ((a : Int) + (blankF false (s.drop a) : Nat)))), (13, SV.p (PV.int IntKind.i64 ((a : Int) + (blankF false (s.drop a) : Nat)))), (34, SV.undef)], fr := [], hp := [], out := [] }) ∨ ∃ m : Int, r = (Ex.ret, { env := [(1, SV.p (PV.int IntKind.i64 m)), (4, SV.p (PV.int IntKind.i64 ((a : Int) + (blankF false (s.drop a) : Nat)))), (13, SV.undef), (34, SV.undef)], fr := [], hp := [], out := [] })) (fun a => a ≤ s.length) ?_
  intro a ha
  rw [← symA_std]
  by_cases hlt : a < s.length
  · have hx : s[a]? = some s[a] := List.getElem?_eq_getElem hlt
    have hd : s.drop a = s[a] :: s.drop (a + 1) := List.drop_eq_getElem_cons hlt
    generalize s[a] = c at hx hd
    have g1 : stdF .cmp .lss (a : Int) (Int.ofNat (stdF .slen s)) = true := std_lssT (by show (a : Int) < (s.length : Int); omega)
    have g2 : stdF .cmp .leq 0 (a : Int) = true := std_leqT (by omega)
    have e1 : stdF .ar .add .i64 (a : Int) 1 = ((a + 1 : Nat) : Int) := by rw [std_add (by omega) (by omega)]; rfl
    have one : isB c = true → (a : Int) + (blankF false (s.drop a) : Nat) = ((a + 1 : Nat) : Int) + (blankF false (s.drop (a + 1)) : Nat) := by
      intro h; rw [hd]; simp only [blankF, h, if_true]; omega
    by_cases c1 : c = 32
    · left
      have := it13_1 stdF (look fl) nlI s a c g1 g2 hx (u8_eq (n := 32) c1 (by decide))
      rw [e1] at this
      exact ⟨a + 1, this, hlt, by show s.length - (a + 1) < s.length - a; omega, fun r h => by rw [one (by subst c1; rfl)]; exact h⟩
    by_cases c2 : c = 9
    · left
      have := it13_2 stdF (look fl) nlI s a c g1 g2 hx (u8_ne (n := 32) c1 (by decide)) (u8_eq (n := 9) c2 (by decide))
      rw [e1] at this
      exact ⟨a + 1, this, hlt, by show s.length - (a + 1) < s.length - a; omega, fun r h => by rw [one (by subst c2; rfl)]; exact h⟩
    by_cases c3 : c = 10
    · left
      have := it13_3 stdF (look fl) nlI s a c g1 g2 hx (u8_ne (n := 32) c1 (by decide)) (u8_ne (n := 9) c2 (by decide)) (u8_eq (n := 10) c3 (by decide))
      rw [e1] at this
      exact ⟨a + 1, this, hlt, by show s.length - (a + 1) < s.length - a; omega, fun r h => by rw [one (by subst c3; rfl)]; exact h⟩
    by_cases c4 : c = 13
    · left
      have := it13_4 stdF (look fl) nlI s a c g1 g2 hx (u8_ne (n := 32) c1 (by decide)) (u8_ne (n := 9) c2 (by decide)) (u8_ne (n := 10) c3 (by decide)) (u8_eq (n := 13) c4 (by decide))
      rw [e1] at this
      exact ⟨a + 1, this, hlt, by show s.length - (a + 1) < s.length - a; omega, fun r h => by rw [one (by subst c4; rfl)]; exact h⟩
    have hB : isB c = false := by unfold isB; simp [c1, c2, c3, c4]
    by_cases c5 : c = 35
    · have hv : blankF false (s.drop a) = blankF true (s.drop a) := by
        rw [hd]; subst c5; simp only [blankF, hB, if_true]; simp
      have hcut : stdF .scut s (stdF .toN (a : Int)) (stdF .slen s) = s.drop a := by
        show (s.take s.length).drop a = s.drop a
        rw [List.take_length]
      have g3 : stdF .le (stdF .toN (a : Int)) (stdF .slen s) = true := std_leT (by show a ≤ s.length; omega)
      have g4 : stdF .le (stdF .slen s) (stdF .slen s) = true := std_leT (Nat.le_refl _)
      by_cases hn : nlI (s.drop a) < 0
      · right
        have := it13_6 stdF (look fl) nlI s a c g1 g2 hx (u8_ne (n := 32) c1 (by decide)) (u8_ne (n := 9) c2 (by decide)) (u8_ne (n := 10) c3 (by decide)) (u8_ne (n := 13) c4 (by decide)) (u8_eq (n := 35) c5 (by decide)) g2 g3 g4 (by rw [hcut]; exact std_lssT hn)
        refine ⟨_, _, this, by simp, .inr (.inr ⟨a, ?_⟩)⟩
        have e := nlI_neg _ hn
        rw [hv, e, List.length_drop]
        rw [show (a : Int) + ((s.length - a : Nat) : Int) = (s.length : Int) by omega]
        rfl
      · left
        obtain ⟨e, k1, k2, k3, k4⟩ := nlI_pos _ (Int.not_lt.mp hn)
        have := it13_7 stdF (look fl) nlI s a c g1 g2 hx (u8_ne (n := 32) c1 (by decide)) (u8_ne (n := 9) c2 (by decide)) (u8_ne (n := 10) c3 (by decide)) (u8_ne (n := 13) c4 (by decide)) (u8_eq (n := 35) c5 (by decide)) g2 g3 g4 (by rw [hcut]; exact std_lssF hn)
        rw [List.length_drop] at k2
        rw [hcut, k1, show stdF .ar .add .i64 (a : Int) (e : Int) = ((a + e : Nat) : Int) by rw [std_add (by omega) (by omega)]; rfl] at this
        have he : e ≠ 0 := by
          intro h0; subst h0
          rw [hd] at k4
          simp only [List.getElem?_cons_zero, Option.some.injEq] at k4
          exact c3 k4
        refine ⟨a + e, this, by omega, by show s.length - (a + e) < s.length - a; omega, fun r h => ?_⟩
        rw [hv, k3, List.drop_drop]
        rw [show (a : Int) + ((e + blankF false (s.drop (a + e)) : Nat) : Int) = ((a + e : Nat) : Int) + (blankF false (s.drop (a + e)) : Nat) by omega]
        exact h
    · right
      have := it13_5 stdF (look fl) nlI s a c g1 g2 hx (u8_ne (n := 32) c1 (by decide)) (u8_ne (n := 9) c2 (by decide)) (u8_ne (n := 10) c3 (by decide)) (u8_ne (n := 13) c4 (by decide)) (u8_ne (n := 35) c5 (by decide))
      refine ⟨_, _, this, by simp, .inr (.inl ?_)⟩
      rw [hd]
      simp only [blankF, hB, c5, if_false, Bool.false_eq_true, Int.ofNat_zero, Int.add_zero]
      first | done | simp
  · right
    have : a = s.length := by omega
    subst this
    refine ⟨_, _, it13_0 stdF (look fl) nlI s (s.length : Int) (std_lssF (by show ¬ ((s.length : Int) < (s.length : Int)); omega)), by simp, .inl ?_⟩
    rw [List.drop_length]
    simp [blankF]
theorem run13 (s : List UInt8) (hs : okS s = true) (a : Nat) (ha : a ≤ s.length) : CallsTo (T (psX3 nlI)) ⟨0, 0⟩ 13 [.p (.str s), .p (.int .i64 a)] [] [] (.p (.int .i64 ((a : Int) + (blankF false (s.drop a) : Nat))), [], []) := by
  refine CallsTo.fn okC_none allL_ok (vf := vf13) rfl ?_
  rw [← symA_std]
  obtain ⟨r, h1, h2⟩ := loop13 s hs a ha
  have hl := allL_eq h1
  rcases h2 with rfl | rfl | ⟨m, rfl⟩
  · exact sem13a_0 stdF (look fl) nlI (allL (T (psX3 nlI)) ⟨0, 0⟩) s a _ 0 hl
  · exact sem13b_0 stdF (look fl) nlI (allL (T (psX3 nlI)) ⟨0, 0⟩) s a _ 0 hl
  · exact sem13c_0 stdF (look fl) nlI (allL (T (psX3 nlI)) ⟨0, 0⟩) s a _ m hl
def qH (H : List UInt8 → Bool) : List SV → Option SV
  | [.p (.str s), .p (.str [45, 62])] => some (.p (.bool (H s)))
  | _ => none
theorem sem25_0 (F : Fns) (fns) (s : List UInt8)  (h0 : F Fn.cmp BinOp.geq (Int.ofNat (F Fn.slen s)) (Int.ofNat (F Fn.slen [45, 62])) = false) : @S.fnS (symA F) (T' fns (look m0)) (fun _ _ _ _ _ => none) (fun _ _ => none) ⟨0, 0⟩ vf25 [.p (.str s), .p (.str [45, 62])] [] [] = some ((SV.p (PV.bool false), [], []), []) := by
  cbv
  rw [h0]
  cbv
theorem sem25_1 (F : Fns) (fns) (s : List UInt8)  (h0 : F Fn.cmp BinOp.geq (Int.ofNat (F Fn.slen s)) (Int.ofNat (F Fn.slen [45, 62])) = true) (h1 : F Fn.cmp BinOp.leq 0 (Int.ofNat (F Fn.slen [45, 62])) = true) (h2 : F Fn.le 0 (F Fn.toN (Int.ofNat (F Fn.slen [45, 62]))) = true) (h3 : F Fn.le (F Fn.toN (Int.ofNat (F Fn.slen [45, 62]))) (F Fn.slen s) = true) : @S.fnS (symA F) (T' fns (look m0)) (fun _ _ _ _ _ => none) (fun _ _ => none) ⟨0, 0⟩ vf25 [.p (.str s), .p (.str [45, 62])] [] [] = some ((SV.p (PV.bool (F Fn.scmp BinOp.eql (F Fn.scut s 0 (F Fn.toN (Int.ofNat (F Fn.slen [45, 62])))) [45, 62])), [], []), []) := by
  cbv
  rw [h0]
  cbv
  rw [h1]
  cbv
  rw [h2]
  cbv
  rw [h3]
  cbv
def psH (H : List UInt8 → Bool) : List (Nat × Prim) := [(25, .q (qH H))]
theorem sem22_0 (F : Fns) (fns) (H : List UInt8 → Bool) (s : List UInt8)   : @S.fnS (symA F) (T' fns (look (psH H))) (fun _ _ _ _ _ => none) (fun _ _ => none) ⟨0, 0⟩ vf22 [.p (.str s), .p (.str [45, 62])] [] [] = some ((SV.p (PV.bool (H s)), [], []), []) := by
  cbv

def hpF (s : List UInt8) : Bool := s.take 2 == [45, 62]
theorem p25 : QPrimOk Try.prog 25 (qH hpF) := pureQ prims_nil fun args v e => by
  unfold qH at e; split at e
  · simp only [Option.some.injEq] at e; subst e
    rename_i s
    refine ⟨rfl, rfl, [], [], CallsTo.fn okC_none okL_none (vf := vf25) rfl ?_⟩
    rw [← symA_std]
    by_cases h : 2 ≤ s.length
    · exact sem25_1 stdF (look fl) s (std_geqT (by show (2 : Int) ≤ (s.length : Int); omega)) rfl rfl (std_leT h)
    · have e : hpF s = false := by
        unfold hpF
        rw [List.take_of_length_le (by omega)]
        simp only [beq_eq_false_iff_ne]
        intro e; subst e; simp at h
      rw [e]
      exact sem25_0 stdF (look fl) s (std_geqF (by show ¬ ((2 : Int) ≤ (s.length : Int)); omega))
  · simp at e
theorem psH_ok : PrimOk Try.prog (T (psH hpF)) := prims_q p25 prims_nil
theorem p22 : QPrimOk Try.prog 22 (qH hpF) := pureQ psH_ok fun args v e => by
  unfold qH at e; split at e
  · simp only [Option.some.injEq] at e; subst e
    exact ⟨rfl, rfl, [], [], CallsTo.fn okC_none okL_none (vf := vf22) rfl (by rw [← symA_std]; exact sem22_0 stdF (look fl) hpF _)⟩
  · simp at e
def ps3 (L D : Int → Bool) (R : List UInt8 → Int) (A : List UInt8 → Bool) (N : List UInt8 → Int × List UInt8 × Int × Int) (H G : List UInt8 → Bool) : List (Nat × Prim) :=
  (22, .q (qH H)) :: (18, .q (qI G R)) :: (19, .q (qB G A)) :: (20, .q (q20 A N)) :: ps L D
abbrev runI (s : List UInt8) : Int := (runN s : Int)
abbrev allDc (s : List UInt8) : Bool := s.all isDc
theorem ps3_ok : PrimOk Try.prog (T (ps3 isL isD runI allDc numR hpF okS)) := prims_q p22 (prims_q p18 (prims_q p19 (prims_q p20 ps_ok)))
theorem sem14_0 (F : Fns) (fns) (L D : Int → Bool) (R : List UInt8 → Int) (A : List UInt8 → Bool) (N : List UInt8 → Int × List UInt8 × Int × Int) (H G : List UInt8 → Bool) (s : List UInt8)  (h0 : G s = true) (h1 : F Fn.cmp BinOp.gtr (R s) 0 = false) (h2 : F Fn.cmp BinOp.gtr (R s) 0 = false) (h3 : F Fn.cmp BinOp.gtr (R s) 16 = true) : @S.fnS (symA F) (T' fns (look (ps3 L D R A N H G))) (fun _ _ _ _ _ => none) (fun _ _ => none) ⟨0, 0⟩ vf14 [.p (.str s)] [] [] = some ((SV.tup [SV.pagg [PV.int IntKind.i64 0, PV.str [], PV.int IntKind.i64 0, PV.int IntKind.i64 0], SV.p (PV.int IntKind.i64 6)], [], []), []) := by
  cbv
  rw [h0]
  cbv
  rw [h1]
  cbv
  rw [h2]
  cbv
  rw [h3]
  cbv
theorem sem14_1 (F : Fns) (fns) (L D : Int → Bool) (R : List UInt8 → Int) (A : List UInt8 → Bool) (N : List UInt8 → Int × List UInt8 × Int × Int) (H G : List UInt8 → Bool) (s : List UInt8) (x0 : UInt8) (h0 : G s = true) (h1 : F Fn.cmp BinOp.gtr (R s) 0 = false) (h2 : F Fn.cmp BinOp.gtr (R s) 0 = false) (h3 : F Fn.cmp BinOp.gtr (R s) 16 = false) (h4 : F Fn.cmp BinOp.gtr (R s) 0 = false) (h5 : F Fn.cmp BinOp.leq 0 0 = true) (h6 : F Fn.sget s (F Fn.toN 0) = some x0) (h7 : F Fn.cmp BinOp.eql (Int.ofNat x0.1.1.1) 45 = true) (h8 : H s = true) : @S.fnS (symA F) (T' fns (look (ps3 L D R A N H G))) (fun _ _ _ _ _ => none) (fun _ _ => none) ⟨0, 0⟩ vf14 [.p (.str s)] [] [] = some ((SV.tup [SV.pagg [PV.int IntKind.i64 3, PV.str [45, 62], PV.int IntKind.i64 0, PV.int IntKind.i64 0], SV.p (PV.int IntKind.i64 0)], [], []), []) := by
  cbv
  rw [h0]
  cbv
  rw [h1]
  cbv
  rw [h2]
  cbv
  rw [h3]
  cbv
  rw [h4]
  cbv
  rw [h5]
  cbv
  rw [h6]
  cbv
  rw [h7]
  cbv
  rw [h8]
  cbv
theorem sem14_2 (F : Fns) (fns) (L D : Int → Bool) (R : List UInt8 → Int) (A : List UInt8 → Bool) (N : List UInt8 → Int × List UInt8 × Int × Int) (H G : List UInt8 → Bool) (s : List UInt8)  (h0 : G s = true) (h1 : F Fn.cmp BinOp.gtr (R s) 0 = true) (h2 : F Fn.cmp BinOp.leq 0 (R s) = true) (h3 : F Fn.le 0 (F Fn.toN (R s)) = true) (h4 : F Fn.le (F Fn.toN (R s)) (F Fn.slen s) = true) (h5 : G (F Fn.scut s 0 (F Fn.toN (R s))) = true) (h6 : A (F Fn.scut s 0 (F Fn.toN (R s))) = true) (h7 : F Fn.cmp BinOp.leq 0 (R s) = true) (h8 : F Fn.le 0 (F Fn.toN (R s)) = true) (h9 : F Fn.le (F Fn.toN (R s)) (F Fn.slen s) = true) (h10 : A (F Fn.scut s 0 (F Fn.toN (R s))) = true) : @S.fnS (symA F) (T' fns (look (ps3 L D R A N H G))) (fun _ _ _ _ _ => none) (fun _ _ => none) ⟨0, 0⟩ vf14 [.p (.str s)] [] [] = some ((SV.tup [SV.pagg [PV.int IntKind.i64 (N (F Fn.scut s 0 (F Fn.toN (R s)))).1, PV.str (N (F Fn.scut s 0 (F Fn.toN (R s)))).2.1, PV.int IntKind.i64 (N (F Fn.scut s 0 (F Fn.toN (R s)))).2.2.1, PV.int IntKind.i64 0], SV.p (PV.int IntKind.i64 (N (F Fn.scut s 0 (F Fn.toN (R s)))).2.2.2)], [], []), []) := by
  cbv
  rw [h0]
  cbv
  rw [h1]
  cbv
  rw [h2]
  cbv
  rw [h3]
  cbv
  rw [h4]
  cbv
  rw [h5]
  cbv
  rw [h6]
  cbv
  rw [h7]
  cbv
  rw [h8]
  cbv
  rw [h9]
  cbv
  rw [h10]
  cbv
theorem sem14_3 (F : Fns) (fns) (L D : Int → Bool) (R : List UInt8 → Int) (A : List UInt8 → Bool) (N : List UInt8 → Int × List UInt8 × Int × Int) (H G : List UInt8 → Bool) (s : List UInt8) (x0 : UInt8) (h0 : G s = true) (h1 : F Fn.cmp BinOp.gtr (R s) 0 = true) (h2 : F Fn.cmp BinOp.leq 0 (R s) = true) (h3 : F Fn.le 0 (F Fn.toN (R s)) = true) (h4 : F Fn.le (F Fn.toN (R s)) (F Fn.slen s) = true) (h5 : G (F Fn.scut s 0 (F Fn.toN (R s))) = true) (h6 : A (F Fn.scut s 0 (F Fn.toN (R s))) = false) (h7 : F Fn.cmp BinOp.gtr (R s) 0 = true) (h8 : F Fn.cmp BinOp.leq 0 0 = true) (h9 : F Fn.sget s (F Fn.toN 0) = some x0) (h10 : L (Int.ofNat x0.1.1.1) = false) : @S.fnS (symA F) (T' fns (look (ps3 L D R A N H G))) (fun _ _ _ _ _ => none) (fun _ _ => none) ⟨0, 0⟩ vf14 [.p (.str s)] [] [] = some ((SV.tup [SV.pagg [PV.int IntKind.i64 0, PV.str [], PV.int IntKind.i64 0, PV.int IntKind.i64 0], SV.p (PV.int IntKind.i64 20)], [], []), []) := by
  cbv
  rw [h0]
  cbv
  rw [h1]
  cbv
  rw [h2]
  cbv
  rw [h3]
  cbv
  rw [h4]
  cbv
  rw [h5]
  cbv
  rw [h6]
  cbv
  rw [h7]
  cbv
  rw [h8]
  cbv
  rw [h9]
  cbv
  rw [h10]
  cbv
theorem sem14_4 (F : Fns) (fns) (L D : Int → Bool) (R : List UInt8 → Int) (A : List UInt8 → Bool) (N : List UInt8 → Int × List UInt8 × Int × Int) (H G : List UInt8 → Bool) (s : List UInt8) (x0 : UInt8) (h0 : G s = true) (h1 : F Fn.cmp BinOp.gtr (R s) 0 = true) (h2 : F Fn.cmp BinOp.leq 0 (R s) = true) (h3 : F Fn.le 0 (F Fn.toN (R s)) = true) (h4 : F Fn.le (F Fn.toN (R s)) (F Fn.slen s) = true) (h5 : G (F Fn.scut s 0 (F Fn.toN (R s))) = true) (h6 : A (F Fn.scut s 0 (F Fn.toN (R s))) = false) (h7 : F Fn.cmp BinOp.gtr (R s) 0 = true) (h8 : F Fn.cmp BinOp.leq 0 0 = true) (h9 : F Fn.sget s (F Fn.toN 0) = some x0) (h10 : L (Int.ofNat x0.1.1.1) = true) (h11 : F Fn.cmp BinOp.gtr (R s) 16 = true) : @S.fnS (symA F) (T' fns (look (ps3 L D R A N H G))) (fun _ _ _ _ _ => none) (fun _ _ => none) ⟨0, 0⟩ vf14 [.p (.str s)] [] [] = some ((SV.tup [SV.pagg [PV.int IntKind.i64 0, PV.str [], PV.int IntKind.i64 0, PV.int IntKind.i64 0], SV.p (PV.int IntKind.i64 6)], [], []), []) := by
  cbv
  rw [h0]
  cbv
  rw [h1]
  cbv
  rw [h2]
  cbv
  rw [h3]
  cbv
  rw [h4]
  cbv
  rw [h5]
  cbv
  rw [h6]
  cbv
  rw [h7]
  cbv
  rw [h8]
  cbv
  rw [h9]
  cbv
  rw [h10]
  cbv
  rw [h11]
  cbv
theorem sem14_5 (F : Fns) (fns) (L D : Int → Bool) (R : List UInt8 → Int) (A : List UInt8 → Bool) (N : List UInt8 → Int × List UInt8 × Int × Int) (H G : List UInt8 → Bool) (s : List UInt8) (x0 : UInt8) (h0 : G s = true) (h1 : F Fn.cmp BinOp.gtr (R s) 0 = false) (h2 : F Fn.cmp BinOp.gtr (R s) 0 = false) (h3 : F Fn.cmp BinOp.gtr (R s) 16 = false) (h4 : F Fn.cmp BinOp.gtr (R s) 0 = false) (h5 : F Fn.cmp BinOp.leq 0 0 = true) (h6 : F Fn.sget s (F Fn.toN 0) = some x0) (h7 : F Fn.cmp BinOp.eql (Int.ofNat x0.1.1.1) 45 = true) (h8 : H s = false) (h9 : F Fn.cmp BinOp.leq 0 1 = true) (h10 : F Fn.le 0 (F Fn.toN 1) = true) (h11 : F Fn.le (F Fn.toN 1) (F Fn.slen s) = true) : @S.fnS (symA F) (T' fns (look (ps3 L D R A N H G))) (fun _ _ _ _ _ => none) (fun _ _ => none) ⟨0, 0⟩ vf14 [.p (.str s)] [] [] = some ((SV.tup [SV.pagg [PV.int IntKind.i64 3, PV.str (F Fn.scut s 0 (F Fn.toN 1)), PV.int IntKind.i64 0, PV.int IntKind.i64 0], SV.p (PV.int IntKind.i64 0)], [], []), []) := by
  cbv
  rw [h0]
  cbv
  rw [h1]
  cbv
  rw [h2]
  cbv
  rw [h3]
  cbv
  rw [h4]
  cbv
  rw [h5]
  cbv
  rw [h6]
  cbv
  rw [h7]
  cbv
  rw [h8]
  cbv
  rw [h9]
  cbv
  rw [h10]
  cbv
  rw [h11]
  cbv
theorem sem14_6 (F : Fns) (fns) (L D : Int → Bool) (R : List UInt8 → Int) (A : List UInt8 → Bool) (N : List UInt8 → Int × List UInt8 × Int × Int) (H G : List UInt8 → Bool) (s : List UInt8) (x0 : UInt8) (h0 : G s = true) (h1 : F Fn.cmp BinOp.gtr (R s) 0 = false) (h2 : F Fn.cmp BinOp.gtr (R s) 0 = false) (h3 : F Fn.cmp BinOp.gtr (R s) 16 = false) (h4 : F Fn.cmp BinOp.gtr (R s) 0 = false) (h5 : F Fn.cmp BinOp.leq 0 0 = true) (h6 : F Fn.sget s (F Fn.toN 0) = some x0) (h7 : F Fn.cmp BinOp.eql (Int.ofNat x0.1.1.1) 45 = false) (h8 : F Fn.cmp BinOp.eql (Int.ofNat x0.1.1.1) 61 = true) (h9 : F Fn.cmp BinOp.leq 0 1 = true) (h10 : F Fn.le 0 (F Fn.toN 1) = true) (h11 : F Fn.le (F Fn.toN 1) (F Fn.slen s) = true) : @S.fnS (symA F) (T' fns (look (ps3 L D R A N H G))) (fun _ _ _ _ _ => none) (fun _ _ => none) ⟨0, 0⟩ vf14 [.p (.str s)] [] [] = some ((SV.tup [SV.pagg [PV.int IntKind.i64 3, PV.str (F Fn.scut s 0 (F Fn.toN 1)), PV.int IntKind.i64 0, PV.int IntKind.i64 0], SV.p (PV.int IntKind.i64 0)], [], []), []) := by
  cbv
  rw [h0]
  cbv
  rw [h1]
  cbv
  rw [h2]
  cbv
  rw [h3]
  cbv
  rw [h4]
  cbv
  rw [h5]
  cbv
  rw [h6]
  cbv
  rw [h7]
  cbv
  rw [h8]
  cbv
  rw [h9]
  cbv
  rw [h10]
  cbv
  rw [h11]
  cbv
theorem sem14_7 (F : Fns) (fns) (L D : Int → Bool) (R : List UInt8 → Int) (A : List UInt8 → Bool) (N : List UInt8 → Int × List UInt8 × Int × Int) (H G : List UInt8 → Bool) (s : List UInt8) (x0 : UInt8) (h0 : G s = true) (h1 : F Fn.cmp BinOp.gtr (R s) 0 = false) (h2 : F Fn.cmp BinOp.gtr (R s) 0 = false) (h3 : F Fn.cmp BinOp.gtr (R s) 16 = false) (h4 : F Fn.cmp BinOp.gtr (R s) 0 = false) (h5 : F Fn.cmp BinOp.leq 0 0 = true) (h6 : F Fn.sget s (F Fn.toN 0) = some x0) (h7 : F Fn.cmp BinOp.eql (Int.ofNat x0.1.1.1) 45 = false) (h8 : F Fn.cmp BinOp.eql (Int.ofNat x0.1.1.1) 61 = false) (h9 : F Fn.cmp BinOp.eql (Int.ofNat x0.1.1.1) 44 = true) (h10 : F Fn.cmp BinOp.leq 0 1 = true) (h11 : F Fn.le 0 (F Fn.toN 1) = true) (h12 : F Fn.le (F Fn.toN 1) (F Fn.slen s) = true) : @S.fnS (symA F) (T' fns (look (ps3 L D R A N H G))) (fun _ _ _ _ _ => none) (fun _ _ => none) ⟨0, 0⟩ vf14 [.p (.str s)] [] [] = some ((SV.tup [SV.pagg [PV.int IntKind.i64 3, PV.str (F Fn.scut s 0 (F Fn.toN 1)), PV.int IntKind.i64 0, PV.int IntKind.i64 0], SV.p (PV.int IntKind.i64 0)], [], []), []) := by
  cbv
  rw [h0]
  cbv
  rw [h1]
  cbv
  rw [h2]
  cbv
  rw [h3]
  cbv
  rw [h4]
  cbv
  rw [h5]
  cbv
  rw [h6]
  cbv
  rw [h7]
  cbv
  rw [h8]
  cbv
  rw [h9]
  cbv
  rw [h10]
  cbv
  rw [h11]
  cbv
  rw [h12]
  cbv
theorem sem14_8 (F : Fns) (fns) (L D : Int → Bool) (R : List UInt8 → Int) (A : List UInt8 → Bool) (N : List UInt8 → Int × List UInt8 × Int × Int) (H G : List UInt8 → Bool) (s : List UInt8) (x0 : UInt8) (h0 : G s = true) (h1 : F Fn.cmp BinOp.gtr (R s) 0 = false) (h2 : F Fn.cmp BinOp.gtr (R s) 0 = false) (h3 : F Fn.cmp BinOp.gtr (R s) 16 = false) (h4 : F Fn.cmp BinOp.gtr (R s) 0 = false) (h5 : F Fn.cmp BinOp.leq 0 0 = true) (h6 : F Fn.sget s (F Fn.toN 0) = some x0) (h7 : F Fn.cmp BinOp.eql (Int.ofNat x0.1.1.1) 45 = false) (h8 : F Fn.cmp BinOp.eql (Int.ofNat x0.1.1.1) 61 = false) (h9 : F Fn.cmp BinOp.eql (Int.ofNat x0.1.1.1) 44 = false) (h10 : F Fn.cmp BinOp.eql (Int.ofNat x0.1.1.1) 59 = true) (h11 : F Fn.cmp BinOp.leq 0 1 = true) (h12 : F Fn.le 0 (F Fn.toN 1) = true) (h13 : F Fn.le (F Fn.toN 1) (F Fn.slen s) = true) : @S.fnS (symA F) (T' fns (look (ps3 L D R A N H G))) (fun _ _ _ _ _ => none) (fun _ _ => none) ⟨0, 0⟩ vf14 [.p (.str s)] [] [] = some ((SV.tup [SV.pagg [PV.int IntKind.i64 3, PV.str (F Fn.scut s 0 (F Fn.toN 1)), PV.int IntKind.i64 0, PV.int IntKind.i64 0], SV.p (PV.int IntKind.i64 0)], [], []), []) := by
  cbv
  rw [h0]
  cbv
  rw [h1]
  cbv
  rw [h2]
  cbv
  rw [h3]
  cbv
  rw [h4]
  cbv
  rw [h5]
  cbv
  rw [h6]
  cbv
  rw [h7]
  cbv
  rw [h8]
  cbv
  rw [h9]
  cbv
  rw [h10]
  cbv
  rw [h11]
  cbv
  rw [h12]
  cbv
  rw [h13]
  cbv
theorem sem14_9 (F : Fns) (fns) (L D : Int → Bool) (R : List UInt8 → Int) (A : List UInt8 → Bool) (N : List UInt8 → Int × List UInt8 × Int × Int) (H G : List UInt8 → Bool) (s : List UInt8) (x0 : UInt8) (h0 : G s = true) (h1 : F Fn.cmp BinOp.gtr (R s) 0 = false) (h2 : F Fn.cmp BinOp.gtr (R s) 0 = false) (h3 : F Fn.cmp BinOp.gtr (R s) 16 = false) (h4 : F Fn.cmp BinOp.gtr (R s) 0 = false) (h5 : F Fn.cmp BinOp.leq 0 0 = true) (h6 : F Fn.sget s (F Fn.toN 0) = some x0) (h7 : F Fn.cmp BinOp.eql (Int.ofNat x0.1.1.1) 45 = false) (h8 : F Fn.cmp BinOp.eql (Int.ofNat x0.1.1.1) 61 = false) (h9 : F Fn.cmp BinOp.eql (Int.ofNat x0.1.1.1) 44 = false) (h10 : F Fn.cmp BinOp.eql (Int.ofNat x0.1.1.1) 59 = false) (h11 : F Fn.cmp BinOp.eql (Int.ofNat x0.1.1.1) 38 = false) (h12 : F Fn.cmp BinOp.eql (Int.ofNat x0.1.1.1) 33 = false) (h13 : F Fn.cmp BinOp.eql (Int.ofNat x0.1.1.1) 58 = false) : @S.fnS (symA F) (T' fns (look (ps3 L D R A N H G))) (fun _ _ _ _ _ => none) (fun _ _ => none) ⟨0, 0⟩ vf14 [.p (.str s)] [] [] = some ((SV.tup [SV.pagg [PV.int IntKind.i64 0, PV.str [], PV.int IntKind.i64 0, PV.int IntKind.i64 0], SV.p (PV.int IntKind.i64 20)], [], []), []) := by
  cbv
  rw [h0]
  cbv
  rw [h1]
  cbv
  rw [h2]
  cbv
  rw [h3]
  cbv
  rw [h4]
  cbv
  rw [h5]
  cbv
  rw [h6]
  cbv
  rw [h7]
  cbv
  rw [h8]
  cbv
  rw [h9]
  cbv
  rw [h10]
  cbv
  rw [h11]
  cbv
  rw [h12]
  cbv
  rw [h13]
  cbv
theorem sem14_10 (F : Fns) (fns) (L D : Int → Bool) (R : List UInt8 → Int) (A : List UInt8 → Bool) (N : List UInt8 → Int × List UInt8 × Int × Int) (H G : List UInt8 → Bool) (s : List UInt8) (x0 : UInt8) (h0 : G s = true) (h1 : F Fn.cmp BinOp.gtr (R s) 0 = false) (h2 : F Fn.cmp BinOp.gtr (R s) 0 = false) (h3 : F Fn.cmp BinOp.gtr (R s) 16 = false) (h4 : F Fn.cmp BinOp.gtr (R s) 0 = false) (h5 : F Fn.cmp BinOp.leq 0 0 = true) (h6 : F Fn.sget s (F Fn.toN 0) = some x0) (h7 : F Fn.cmp BinOp.eql (Int.ofNat x0.1.1.1) 45 = false) (h8 : F Fn.cmp BinOp.eql (Int.ofNat x0.1.1.1) 61 = false) (h9 : F Fn.cmp BinOp.eql (Int.ofNat x0.1.1.1) 44 = false) (h10 : F Fn.cmp BinOp.eql (Int.ofNat x0.1.1.1) 59 = false) (h11 : F Fn.cmp BinOp.eql (Int.ofNat x0.1.1.1) 38 = true) (h12 : F Fn.cmp BinOp.leq 0 1 = true) (h13 : F Fn.le 0 (F Fn.toN 1) = true) (h14 : F Fn.le (F Fn.toN 1) (F Fn.slen s) = true) : @S.fnS (symA F) (T' fns (look (ps3 L D R A N H G))) (fun _ _ _ _ _ => none) (fun _ _ => none) ⟨0, 0⟩ vf14 [.p (.str s)] [] [] = some ((SV.tup [SV.pagg [PV.int IntKind.i64 3, PV.str (F Fn.scut s 0 (F Fn.toN 1)), PV.int IntKind.i64 0, PV.int IntKind.i64 0], SV.p (PV.int IntKind.i64 0)], [], []), []) := by
  cbv
  rw [h0]
  cbv
  rw [h1]
  cbv
  rw [h2]
  cbv
  rw [h3]
  cbv
  rw [h4]
  cbv
  rw [h5]
  cbv
  rw [h6]
  cbv
  rw [h7]
  cbv
  rw [h8]
  cbv
  rw [h9]
  cbv
  rw [h10]
  cbv
  rw [h11]
  cbv
  rw [h12]
  cbv
  rw [h13]
  cbv
  rw [h14]
  cbv
theorem sem14_11 (F : Fns) (fns) (L D : Int → Bool) (R : List UInt8 → Int) (A : List UInt8 → Bool) (N : List UInt8 → Int × List UInt8 × Int × Int) (H G : List UInt8 → Bool) (s : List UInt8) (x0 : UInt8) (h0 : G s = true) (h1 : F Fn.cmp BinOp.gtr (R s) 0 = true) (h2 : F Fn.cmp BinOp.leq 0 (R s) = true) (h3 : F Fn.le 0 (F Fn.toN (R s)) = true) (h4 : F Fn.le (F Fn.toN (R s)) (F Fn.slen s) = true) (h5 : G (F Fn.scut s 0 (F Fn.toN (R s))) = true) (h6 : A (F Fn.scut s 0 (F Fn.toN (R s))) = false) (h7 : F Fn.cmp BinOp.gtr (R s) 0 = true) (h8 : F Fn.cmp BinOp.leq 0 0 = true) (h9 : F Fn.sget s (F Fn.toN 0) = some x0) (h10 : L (Int.ofNat x0.1.1.1) = true) (h11 : F Fn.cmp BinOp.gtr (R s) 16 = false) (h12 : F Fn.cmp BinOp.gtr (R s) 0 = true) (h13 : F Fn.cmp BinOp.leq 0 (R s) = true) (h14 : F Fn.le 0 (F Fn.toN (R s)) = true) (h15 : F Fn.le (F Fn.toN (R s)) (F Fn.slen s) = true) : @S.fnS (symA F) (T' fns (look (ps3 L D R A N H G))) (fun _ _ _ _ _ => none) (fun _ _ => none) ⟨0, 0⟩ vf14 [.p (.str s)] [] [] = some ((SV.tup [SV.pagg [PV.int IntKind.i64 1, PV.str (F Fn.scut s 0 (F Fn.toN (R s))), PV.int IntKind.i64 0, PV.int IntKind.i64 0], SV.p (PV.int IntKind.i64 0)], [], []), []) := by
  cbv
  rw [h0]
  cbv
  rw [h1]
  cbv
  rw [h2]
  cbv
  rw [h3]
  cbv
  rw [h4]
  cbv
  rw [h5]
  cbv
  rw [h6]
  cbv
  rw [h7]
  cbv
  rw [h8]
  cbv
  rw [h9]
  cbv
  rw [h10]
  cbv
  rw [h11]
  cbv
  rw [h12]
  cbv
  rw [h13]
  cbv
  rw [h14]
  cbv
  rw [h15]
  cbv
theorem sem14_12 (F : Fns) (fns) (L D : Int → Bool) (R : List UInt8 → Int) (A : List UInt8 → Bool) (N : List UInt8 → Int × List UInt8 × Int × Int) (H G : List UInt8 → Bool) (s : List UInt8) (x0 : UInt8) (h0 : G s = true) (h1 : F Fn.cmp BinOp.gtr (R s) 0 = false) (h2 : F Fn.cmp BinOp.gtr (R s) 0 = false) (h3 : F Fn.cmp BinOp.gtr (R s) 16 = false) (h4 : F Fn.cmp BinOp.gtr (R s) 0 = false) (h5 : F Fn.cmp BinOp.leq 0 0 = true) (h6 : F Fn.sget s (F Fn.toN 0) = some x0) (h7 : F Fn.cmp BinOp.eql (Int.ofNat x0.1.1.1) 45 = false) (h8 : F Fn.cmp BinOp.eql (Int.ofNat x0.1.1.1) 61 = false) (h9 : F Fn.cmp BinOp.eql (Int.ofNat x0.1.1.1) 44 = false) (h10 : F Fn.cmp BinOp.eql (Int.ofNat x0.1.1.1) 59 = false) (h11 : F Fn.cmp BinOp.eql (Int.ofNat x0.1.1.1) 38 = false) (h12 : F Fn.cmp BinOp.eql (Int.ofNat x0.1.1.1) 33 = true) (h13 : F Fn.cmp BinOp.leq 0 1 = true) (h14 : F Fn.le 0 (F Fn.toN 1) = true) (h15 : F Fn.le (F Fn.toN 1) (F Fn.slen s) = true) : @S.fnS (symA F) (T' fns (look (ps3 L D R A N H G))) (fun _ _ _ _ _ => none) (fun _ _ => none) ⟨0, 0⟩ vf14 [.p (.str s)] [] [] = some ((SV.tup [SV.pagg [PV.int IntKind.i64 3, PV.str (F Fn.scut s 0 (F Fn.toN 1)), PV.int IntKind.i64 0, PV.int IntKind.i64 0], SV.p (PV.int IntKind.i64 0)], [], []), []) := by
  cbv
  rw [h0]
  cbv
  rw [h1]
  cbv
  rw [h2]
  cbv
  rw [h3]
  cbv
  rw [h4]
  cbv
  rw [h5]
  cbv
  rw [h6]
  cbv
  rw [h7]
  cbv
  rw [h8]
  cbv
  rw [h9]
  cbv
  rw [h10]
  cbv
  rw [h11]
  cbv
  rw [h12]
  cbv
  rw [h13]
  cbv
  rw [h14]
  cbv
  rw [h15]
  cbv
theorem sem14_13 (F : Fns) (fns) (L D : Int → Bool) (R : List UInt8 → Int) (A : List UInt8 → Bool) (N : List UInt8 → Int × List UInt8 × Int × Int) (H G : List UInt8 → Bool) (s : List UInt8) (x0 : UInt8) (h0 : G s = true) (h1 : F Fn.cmp BinOp.gtr (R s) 0 = false) (h2 : F Fn.cmp BinOp.gtr (R s) 0 = false) (h3 : F Fn.cmp BinOp.gtr (R s) 16 = false) (h4 : F Fn.cmp BinOp.gtr (R s) 0 = false) (h5 : F Fn.cmp BinOp.leq 0 0 = true) (h6 : F Fn.sget s (F Fn.toN 0) = some x0) (h7 : F Fn.cmp BinOp.eql (Int.ofNat x0.1.1.1) 45 = false) (h8 : F Fn.cmp BinOp.eql (Int.ofNat x0.1.1.1) 61 = false) (h9 : F Fn.cmp BinOp.eql (Int.ofNat x0.1.1.1) 44 = false) (h10 : F Fn.cmp BinOp.eql (Int.ofNat x0.1.1.1) 59 = false) (h11 : F Fn.cmp BinOp.eql (Int.ofNat x0.1.1.1) 38 = false) (h12 : F Fn.cmp BinOp.eql (Int.ofNat x0.1.1.1) 33 = false) (h13 : F Fn.cmp BinOp.eql (Int.ofNat x0.1.1.1) 58 = true) (h14 : F Fn.cmp BinOp.leq 0 1 = true) (h15 : F Fn.le 0 (F Fn.toN 1) = true) (h16 : F Fn.le (F Fn.toN 1) (F Fn.slen s) = true) : @S.fnS (symA F) (T' fns (look (ps3 L D R A N H G))) (fun _ _ _ _ _ => none) (fun _ _ => none) ⟨0, 0⟩ vf14 [.p (.str s)] [] [] = some ((SV.tup [SV.pagg [PV.int IntKind.i64 3, PV.str (F Fn.scut s 0 (F Fn.toN 1)), PV.int IntKind.i64 0, PV.int IntKind.i64 0], SV.p (PV.int IntKind.i64 0)], [], []), []) := by
  cbv
  rw [h0]
  cbv
  rw [h1]
  cbv
  rw [h2]
  cbv
  rw [h3]
  cbv
  rw [h4]
  cbv
  rw [h5]
  cbv
  rw [h6]
  cbv
  rw [h7]
  cbv
  rw [h8]
  cbv
  rw [h9]
  cbv
  rw [h10]
  cbv
  rw [h11]
  cbv
  rw [h12]
  cbv
  rw [h13]
  cbv
  rw [h14]
  cbv
  rw [h15]
  cbv
  rw [h16]
  cbv

/-- signs -/
def isSg (c : UInt8) : Bool := c == 45 || c == 61 || c == 44 || c == 59 || c == 38 || c == 33 || c == 58
/-- the token with which a text begins, and what is wrong with it -/
def oneR (s : List UInt8) : Int × List UInt8 × Int × Int :=
  match s with
  | [] => (0, [], 0, 20)
  | c :: r =>
    if 0 < runN (c :: r) then
      if allDc ((c :: r).take (runN (c :: r))) = true then numR ((c :: r).take (runN (c :: r)))
      else if isL (Int.ofNat c.toNat) = false then (0, [], 0, 20)
      else if 16 < runN (c :: r) then (0, [], 0, 6) else (1, (c :: r).take (runN (c :: r)), 0, 0)
    else if c = 45 ∧ hpF (c :: r) = true then (3, [45, 62], 0, 0)
    else if isSg c = true then (3, [c], 0, 0) else (0, [], 0, 20)
theorem oneR_cons (c : UInt8) (r : List UInt8) : oneR (c :: r) = if 0 < runN (c :: r) then
      if allDc ((c :: r).take (runN (c :: r))) = true then numR ((c :: r).take (runN (c :: r)))
      else if isL (Int.ofNat c.toNat) = false then (0, [], 0, 20)
      else if 16 < runN (c :: r) then (0, [], 0, 6) else (1, (c :: r).take (runN (c :: r)), 0, 0)
    else if c = 45 ∧ hpF (c :: r) = true then (3, [45, 62], 0, 0)
    else if isSg c = true then (3, [c], 0, 0) else (0, [], 0, 20) := rfl
/-- a token and an error, as a value -/
def tokV (x : Int × List UInt8 × Int × Int) : SV := .tup [.pagg [.int .i64 x.1, .str x.2.1, .int .i64 x.2.2.1, .int .i64 0], .p (.int .i64 x.2.2.2)]
theorem run14 (c : UInt8) (r : List UInt8) (hG : okS (c :: r) = true) : CallsTo (T (ps3 isL isD runI allDc numR hpF okS)) ⟨0, 0⟩ 14 [.p (.str (c :: r))] [] [] (tokV (oneR (c :: r)), [], []) := by
  refine CallsTo.fn okC_none okL_none (vf := vf14) rfl ?_
  rw [← symA_std]
  have Z0 : stdF .cmp .leq 0 0 = true := std_leqT (by omega)
  have Z1 : stdF .cmp .leq 0 1 = true := std_leqT (by omega)
  have b1 : stdF .le 0 (stdF .toN 1) = true := std_leT (Nat.zero_le _)
  have b2 : ∀ c r, stdF .le (stdF .toN 1) (stdF .slen (c :: r)) = true := fun c r => std_leT (by show 1 ≤ r.length + 1; omega)
  have hle : runN (c :: r) ≤ (c :: r).length := tw_le _ _
  rw [oneR_cons]
  by_cases hn : 0 < runN (c :: r)
  · rw [if_pos hn]
    have T0 : stdF .cmp .gtr (runI (c :: r)) 0 = true := std_gtrT (by show (0 : Int) < ((runN (c :: r) : Nat) : Int); omega)
    have L0 : stdF .cmp .leq 0 (runI (c :: r)) = true := std_leqT (by show (0 : Int) ≤ ((runN (c :: r) : Nat) : Int); omega)
    have a1 : stdF .le 0 (stdF .toN (runI (c :: r))) = true := std_leT (Nat.zero_le _)
    have a2 : stdF .le (stdF .toN (runI (c :: r))) (stdF .slen (c :: r)) = true := std_leT hle
    have G1 : okS (stdF .scut (c :: r) 0 (stdF .toN (runI (c :: r)))) = true := by
      show okS ((c :: r).take (runN (c :: r))) = true
      have := of_decide_eq_true hG
      exact decide_eq_true (by rw [List.length_take]; omega)
    cases hA : allDc ((c :: r).take (runN (c :: r))) with
    | true =>
      rw [if_pos rfl]
      exact sem14_2 stdF (look fl) isL isD runI allDc numR hpF okS (c :: r) hG T0 L0 a1 a2 G1 hA L0 a1 a2 hA
    | false =>
      rw [if_neg (by simp)]
      cases hL : isL (Int.ofNat c.toNat) with
      | false =>
        rw [if_pos rfl]
        exact sem14_3 stdF (look fl) isL isD runI allDc numR hpF okS (c :: r) c hG T0 L0 a1 a2 G1 hA T0 Z0 rfl hL
      | true =>
        rw [if_neg (by simp)]
        by_cases h16 : 16 < runN (c :: r)
        · rw [if_pos h16]
          exact sem14_4 stdF (look fl) isL isD runI allDc numR hpF okS (c :: r) c hG T0 L0 a1 a2 G1 hA T0 Z0 rfl hL (std_gtrT (by show (16 : Int) < ((runN (c :: r) : Nat) : Int); omega))
        · rw [if_neg h16]
          exact sem14_11 stdF (look fl) isL isD runI allDc numR hpF okS (c :: r) c hG T0 L0 a1 a2 G1 hA T0 Z0 rfl hL (std_gtrF (by show ¬ ((16 : Int) < ((runN (c :: r) : Nat) : Int)); omega)) T0 L0 a1 a2
  · rw [if_neg hn]
    have T0 : stdF .cmp .gtr (runI (c :: r)) 0 = false := std_gtrF (by show ¬ ((0 : Int) < ((runN (c :: r) : Nat) : Int)); omega)
    have T16 : stdF .cmp .gtr (runI (c :: r)) 16 = false := std_gtrF (by show ¬ ((16 : Int) < ((runN (c :: r) : Nat) : Int)); omega)
    have b2 := b2 c r
    by_cases d45 : c = 45
    · subst d45
      cases hh : hpF (45 :: r) with
      | true =>
        have := sem14_1 stdF (look fl) isL isD runI allDc numR hpF okS (45 :: r) 45 hG T0 T0 T16 T0 Z0 rfl (u8_eq (n := 45) rfl (by decide)) hh
        exact this
      | false =>
        have := sem14_5 stdF (look fl) isL isD runI allDc numR hpF okS (45 :: r) 45 hG T0 T0 T16 T0 Z0 rfl (u8_eq (n := 45) rfl (by decide)) hh Z1 b1 b2
        exact this
    by_cases d61 : c = 61
    · subst d61
      rw [if_neg (fun h => absurd h.1 (by decide))]
      exact sem14_6 stdF (look fl) isL isD runI allDc numR hpF okS (61 :: r) 61 hG T0 T0 T16 T0 Z0 rfl (u8_ne (n := 45) (by decide) (by decide)) (u8_eq (n := 61) rfl (by decide)) Z1 b1 b2
    by_cases d44 : c = 44
    · subst d44
      rw [if_neg (fun h => absurd h.1 (by decide))]
      exact sem14_7 stdF (look fl) isL isD runI allDc numR hpF okS (44 :: r) 44 hG T0 T0 T16 T0 Z0 rfl (u8_ne (n := 45) (by decide) (by decide)) (u8_ne (n := 61) (by decide) (by decide)) (u8_eq (n := 44) rfl (by decide)) Z1 b1 b2
    by_cases d59 : c = 59
    · subst d59
      rw [if_neg (fun h => absurd h.1 (by decide))]
      exact sem14_8 stdF (look fl) isL isD runI allDc numR hpF okS (59 :: r) 59 hG T0 T0 T16 T0 Z0 rfl (u8_ne (n := 45) (by decide) (by decide)) (u8_ne (n := 61) (by decide) (by decide)) (u8_ne (n := 44) (by decide) (by decide)) (u8_eq (n := 59) rfl (by decide)) Z1 b1 b2
    by_cases d38 : c = 38
    · subst d38
      rw [if_neg (fun h => absurd h.1 (by decide))]
      exact sem14_10 stdF (look fl) isL isD runI allDc numR hpF okS (38 :: r) 38 hG T0 T0 T16 T0 Z0 rfl (u8_ne (n := 45) (by decide) (by decide)) (u8_ne (n := 61) (by decide) (by decide)) (u8_ne (n := 44) (by decide) (by decide)) (u8_ne (n := 59) (by decide) (by decide)) (u8_eq (n := 38) rfl (by decide)) Z1 b1 b2
    by_cases d33 : c = 33
    · subst d33
      rw [if_neg (fun h => absurd h.1 (by decide))]
      exact sem14_12 stdF (look fl) isL isD runI allDc numR hpF okS (33 :: r) 33 hG T0 T0 T16 T0 Z0 rfl (u8_ne (n := 45) (by decide) (by decide)) (u8_ne (n := 61) (by decide) (by decide)) (u8_ne (n := 44) (by decide) (by decide)) (u8_ne (n := 59) (by decide) (by decide)) (u8_ne (n := 38) (by decide) (by decide)) (u8_eq (n := 33) rfl (by decide)) Z1 b1 b2
    by_cases d58 : c = 58
    · subst d58
      rw [if_neg (fun h => absurd h.1 (by decide))]
      exact sem14_13 stdF (look fl) isL isD runI allDc numR hpF okS (58 :: r) 58 hG T0 T0 T16 T0 Z0 rfl (u8_ne (n := 45) (by decide) (by decide)) (u8_ne (n := 61) (by decide) (by decide)) (u8_ne (n := 44) (by decide) (by decide)) (u8_ne (n := 59) (by decide) (by decide)) (u8_ne (n := 38) (by decide) (by decide)) (u8_ne (n := 33) (by decide) (by decide)) (u8_eq (n := 58) rfl (by decide)) Z1 b1 b2
    rw [if_neg (fun h => d45 h.1), if_neg (by unfold isSg; simp [d45, d61, d44, d59, d38, d33, d58])]
    exact sem14_9 stdF (look fl) isL isD runI allDc numR hpF okS (c :: r) c hG T0 T0 T16 T0 Z0 rfl (u8_ne (n := 45) d45 (by decide)) (u8_ne (n := 61) d61 (by decide)) (u8_ne (n := 44) d44 (by decide)) (u8_ne (n := 59) d59 (by decide)) (u8_ne (n := 38) d38 (by decide)) (u8_ne (n := 33) d33 (by decide)) (u8_ne (n := 58) d58 (by decide))

def q13 (B : List UInt8 → Int → Int) (V : List UInt8 → Int → Bool) : List SV → Option SV
  | [.p (.str s), .p (.int .i64 n)] => match V s n with | true => some (.p (.int .i64 (B s n))) | false => none
  | _ => none
def q14 (O : List UInt8 → Int × List UInt8 × Int × Int) (U : List UInt8 → Bool) : List SV → Option SV
  | [.p (.str s)] => match U s with | true => some (.tup [.pagg [.int .i64 (O s).1, .str (O s).2.1, .int .i64 (O s).2.2.1, .int .i64 0], .p (.int .i64 (O s).2.2.2)]) | false => none
  | _ => none
def ps4 (B : List UInt8 → Int → Int) (V : List UInt8 → Int → Bool) (O : List UInt8 → Int × List UInt8 × Int × Int) (U : List UInt8 → Bool) : List (Nat × Prim) := [(13, .q (q13 B V)), (14, .q (q14 O U))]
def blankI (s : List UInt8) (n : Int) : Int := n + (blankF false (s.drop n.toNat) : Nat)
def okB (s : List UInt8) (n : Int) : Bool := okS s && decide (0 ≤ n) && decide (n ≤ s.length)
def okO (s : List UInt8) : Bool := okS s && !s.isEmpty
theorem run13' (s : List UInt8) (n : Int) (hg : okB s n = true) : CallsTo (T (psX3 nlI)) ⟨0, 0⟩ 13 [.p (.str s), .p (.int .i64 n)] [] [] (.p (.int .i64 (blankI s n)), [], []) := by
  unfold okB at hg
  simp only [Bool.and_eq_true, decide_eq_true_eq] at hg
  obtain ⟨a, rfl⟩ := Int.eq_ofNat_of_zero_le hg.1.2
  exact run13 s hg.1.1 a (by omega)
theorem run14' (s : List UInt8) (hg : okO s = true) : CallsTo (T (ps3 isL isD runI allDc numR hpF okS)) ⟨0, 0⟩ 14 [.p (.str s)] [] [] (tokV (oneR s), [], []) := by
  unfold okO at hg
  simp only [Bool.and_eq_true] at hg
  match s, hg with
  | [], hg => simp at hg
  | c :: r, hg => exact run14 c r hg.1
theorem p13 : QPrimOk Try.prog 13 (q13 blankI okB) := pureQ psX3_ok fun args v e => by
  unfold q13 at e; split at e
  · split at e
    · rename_i hg
      simp only [Option.some.injEq] at e; subst e
      exact ⟨rfl, rfl, [], [], run13' _ _ hg⟩
    · simp at e
  · simp at e
theorem p14 : QPrimOk Try.prog 14 (q14 oneR okO) := pureQ ps3_ok fun args v e => by
  unfold q14 at e; split at e
  · split at e
    · rename_i hg
      simp only [Option.some.injEq] at e; subst e
      exact ⟨rfl, rfl, [], [], run14' _ hg⟩
    · simp at e
  · simp at e
theorem ps4_ok : PrimOk Try.prog (T (ps4 blankI okB oneR okO)) := prims_q p13 (prims_q p14 prims_nil)
end Go.Proofs.Ytkkainkhjimcmaa.L
