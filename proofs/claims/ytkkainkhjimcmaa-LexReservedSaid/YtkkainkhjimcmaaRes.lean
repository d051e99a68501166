import Derived.Test.YtkkainkhjimcmaaFuns
import Derived.Test.YtkkainkhjimcmaaVG
/-
LexReserved: both say the same of every word, and the example runs as it should.
-/
namespace Go.Proofs.Ytkkainkhjimcmaa.L
open Go Go.VM
set_option linter.unusedVariables false

set_option maxRecDepth 100000 in
theorem awake_run : ∀ k, callN T (k + 200) ⟨0, 1⟩ 10 [] [] [[]] = some (.p (.bool true), [], [[]]) := fun k => by kernel_rfl

/-- the language's words -/
def ws : List (List UInt8) := [[103, 114, 111, 117, 112], [97, 108, 108, 111, 119], [100, 101, 110, 121], [111, 117, 116, 98, 111, 117, 110, 100], [118, 105, 97], [97, 110, 121], [116, 99, 112], [117, 100, 112], [105, 112], [112, 111, 114, 116]]
def scF (sc : BinOp → List UInt8 → List UInt8 → Bool) : Fns
  | .scmp => sc
  | o => stdF o
theorem scF_std : scF scmpS = stdF := by funext o; cases o <;> rfl
theorem std_scF : stdA = symA (scF scmpS) := by rw [scF_std]; exact symA_std.symm

set_option maxHeartbeats 4000000 in
theorem sem11 (sc : BinOp → List UInt8 → List UInt8 → Bool) (fns) (cF : CallF) (ba : Ba) (s : List UInt8) (hp out) :
    @S.fnS (symA (scF sc)) (T' fns) cF (fun _ _ => none) ba vf11 [.p (.str s)] hp out = some ((.p (.bool (ws.any fun w => sc .eql s w)), hp, out), out) := by
  cbv
  cases sc .eql s [103, 114, 111, 117, 112]
  case true => cbv
  cbv
  cases sc .eql s [97, 108, 108, 111, 119]
  case true => cbv
  cbv
  cases sc .eql s [100, 101, 110, 121]
  case true => cbv
  cbv
  cases sc .eql s [111, 117, 116, 98, 111, 117, 110, 100]
  case true => cbv
  cbv
  cases sc .eql s [118, 105, 97]
  case true => cbv
  cbv
  cases sc .eql s [97, 110, 121]
  case true => cbv
  cbv
  cases sc .eql s [116, 99, 112]
  case true => cbv
  cbv
  cases sc .eql s [117, 100, 112]
  case true => cbv
  cbv
  cases sc .eql s [105, 112]
  case true => cbv
  cbv
  cases sc .eql s [112, 111, 114, 116]
  case true => cbv
  cbv

set_option maxHeartbeats 4000000 in
theorem sem12 (sc : BinOp → List UInt8 → List UInt8 → Bool) (fns) (cF : CallF) (ba : Ba) (s : List UInt8) (hp out) :
    @S.fnS (symA (scF sc)) (T' fns) cF (@S.loopN (symA (scF sc)) (T' fns) cF ba 12) ba vf12 [.p (.str s)] hp out = some ((.p (.bool (ws.any fun w => sc .eql w s)), hp, out), out) := by
  cbv
  cases sc .eql [103, 114, 111, 117, 112] s
  case true => cbv
  cbv
  cases sc .eql [97, 108, 108, 111, 119] s
  case true => cbv
  cbv
  cases sc .eql [100, 101, 110, 121] s
  case true => cbv
  cbv
  cases sc .eql [111, 117, 116, 98, 111, 117, 110, 100] s
  case true => cbv
  cbv
  cases sc .eql [118, 105, 97] s
  case true => cbv
  cbv
  cases sc .eql [97, 110, 121] s
  case true => cbv
  cbv
  cases sc .eql [116, 99, 112] s
  case true => cbv
  cbv
  cases sc .eql [117, 100, 112] s
  case true => cbv
  cbv
  cases sc .eql [105, 112] s
  case true => cbv
  cbv
  cases sc .eql [112, 111, 114, 116] s
  case true => cbv
  cbv

/-- is it one of the words? -/
def isW (s : List UInt8) : Bool := ws.any fun w => scmpS .eql s w

theorem run11 (ba : Ba) (s : List UInt8) (hp out) : CallsTo T ba 11 [.p (.str s)] hp out (.p (.bool (isW s)), hp, out) := by
  refine CallsTo.fn okC_none okL_none (vf := vf11) rfl ?_
  rw [std_scF]
  exact sem11 scmpS (look fl) (fun _ _ _ _ _ => none) ba s hp out
theorem run12 (ba : Ba) (s : List UInt8) (hp out) : CallsTo T ba 12 [.p (.str s)] hp out (.p (.bool (isW s)), hp, out) := by
  refine CallsTo.fn okC_none (loopN_ok okC_none 12) (vf := vf12) rfl ?_
  have e : (ws.any fun w => scmpS .eql w s) = isW s := by
    unfold isW
    congr 1
    funext w
    show (w == s) = (s == w)
    exact BEq.comm
  rw [← e, std_scF]
  exact sem12 scmpS (look fl) (fun _ _ _ _ _ => none) ba s hp out

/-- what is known of the calls -/
def orc (R : List UInt8 → Bool) : CallF := fun ba f args hp out =>
  match f, args with
  | 11, [.p (.str s)] => some (.p (.bool (R s)), hp, out)
  | 12, [.p (.str s)] => some (.p (.bool (R s)), hp, out)
  | 10, [] => match ba, hp, out with
    | ⟨0, 1⟩, [], [[]] => some (.p (.bool true), [], [[]])
    | _, _, _ => none
  | _, _ => none

theorem orc_ok : OkC T (orc isW) := by
  intro ba f args hp out r h
  unfold orc at h
  split at h
  · simp only [Option.some.injEq] at h; subst h; exact run11 ba _ hp out
  · simp only [Option.some.injEq] at h; subst h; exact run12 ba _ hp out
  · split at h
    · simp only [Option.some.injEq] at h; subst h; exact CallsTo.closed awake_run
    · simp at h
  · simp at h

set_option maxHeartbeats 4000000 in
theorem sem6 (F : Fns) (fns) (R : List UInt8 → Bool) (s : List UInt8) :
    @S.fnS (symA F) (T' fns) (orc R) (fun _ _ => none) ⟨0, 0⟩ vf6 [.p (.str s)] [] [] = some ((.p (.bool true), [], []), []) := by
  cbv
theorem run6 (s : List UInt8) : CallsTo T ⟨0, 0⟩ 6 [.p (.str s)] [] [] (.p (.bool true), [], []) := by
  refine CallsTo.fn orc_ok okL_none (vf := vf6) rfl ?_
  rw [← symA_std]
  exact sem6 stdF (look fl) isW s
end Go.Proofs.Ytkkainkhjimcmaa.L
namespace Go.Proofs.Ytkkainkhjimcmaa.L
open Go Go.VM
theorem hrun6 : ∀ args, argsOk [(false, [Kd.str])] args → ∃ k hp' out', callN T k ⟨0, 0⟩ 6 args [] [] = some (.p (.bool true), hp', out') := by
  intro args h
  match args, h with
  | [v], h =>
    simp only [argsOk, argOk, Bool.false_eq_true, if_false, and_true] at h
    obtain ⟨u, rfl, h⟩ := h
    simp only [kdL, kd1, and_true] at h
    obtain ⟨s, rfl, _⟩ := h
    obtain ⟨n0, hn⟩ := run6 s
    exact ⟨n0, _, _, hn n0 (Nat.le_refl _)⟩
end Go.Proofs.Ytkkainkhjimcmaa.L
