import Derived.Test.YtkkainkhjimcmaaLex3
/-
What lex.Split comes to, as one function; tokens from a place on.
-/
namespace Go.Proofs.Ytkkainkhjimcmaa.L
open Go Go.VM
set_option linter.unusedVariables false
set_option maxRecDepth 100000
set_option maxHeartbeats 4000000
def q7 (Z : List UInt8 → Bool) (P : List UInt8 → List (List PV)) (At E : List UInt8 → Int) : List SV → Option SV
  | [.p (.str s)] => some (.tup [match Z s with | true => .p .nils | false => .own 4 (P s), .p (.int .i64 (At s)), .p (.int .i64 (E s))])
  | _ => none
def sZ (s : List UInt8) : Bool := (splitR s).1.isEmpty
def sP (s : List UInt8) : List (List PV) := (splitR s).1
def sAt (s : List UInt8) : Int := (splitR s).2.1
def sE (s : List UInt8) : Int := (splitR s).2.2
theorem p7 : QPrimOk Try.prog 7 (q7 sZ sP sAt sE) := pureQ ps5_ok fun args v e => by
  unfold q7 at e; split at e
  · simp only [Option.some.injEq] at e; subst e
    rename_i s
    have h := run7 s
    unfold splitV at h
    unfold sZ sP sAt sE
    cases hr : (splitR s).1 with
    | nil => rw [hr, if_pos rfl] at h; exact ⟨rfl, rfl, _, _, h⟩
    | cons x r => rw [hr, if_neg (by simp)] at h; exact ⟨rfl, rfl, _, _, h⟩
  · simp at e
theorem aw_true : QPrimOk Try.prog 10 qTrue := qTrue_ok aw_prim (by kernel_rfl)
def ps6 (Z : List UInt8 → Bool) (P : List UInt8 → List (List PV)) (At E : List UInt8 → Int) : List (Nat × Prim) := [(10, .q qTrue), (7, .q (q7 Z P At E))]
theorem ps6_ok : PrimOk Try.prog (T (ps6 sZ sP sAt sE)) := prims_q aw_true (prims_q p7 prims_nil)
theorem blankF_t (c : UInt8) (r : List UInt8) : blankF true (c :: r) = 1 + blankF (c != 10) r := rfl
theorem blankF_f (c : UInt8) (r : List UInt8) : blankF false (c :: r) = if isB c then 1 + blankF false r else if c = 35 then 1 + blankF true r else 0 := rfl
/-! ### tokens from a place on, without fuel -/
def spl (s : List UInt8) (n : Nat) (acc : List (List PV)) : List (List PV) × Int × Int := splitF s (s.length - n + 1) n acc
theorem spl_step {s : List UInt8} {n : Nat} {acc : List (List PV)} (hn : n < s.length) (he : oE (s.drop n) = 0) : spl s n acc = spl s (nextN s n) (acc ++ [rowT s n]) := by
  have hx := next_lt s n hn he
  unfold spl
  rw [show splitF s (s.length - n + 1) n acc = splitF s (s.length - n) (nextN s n) (acc ++ [rowT s n]) by simp only [splitF, hn, he, if_true]]
  exact splitF_fuel s _ _ _ _ (by omega) (by omega)
theorem spl_err {s : List UInt8} {n : Nat} {acc : List (List PV)} (hn : n < s.length) (he : oE (s.drop n) ≠ 0) : spl s n acc = ([], (n : Int), oE (s.drop n)) := by
  unfold spl; simp only [splitF, hn, he, if_true, if_false]
theorem spl_end {s : List UInt8} {n : Nat} {acc : List (List PV)} (hn : ¬ n < s.length) : spl s n acc = (acc, 0, 0) := by
  unfold spl; simp only [splitF, hn, if_false]
theorem spl_nil (s : List UInt8) : ∀ (d n : Nat) (acc : List (List PV)), s.length - n ≤ d → (spl s n acc).2.2 ≠ 0 → (spl s n acc).1 = [] := by
  intro d
  induction d with
  | zero => intro n acc h1 h2; rw [spl_end (by omega)] at h2; exact absurd rfl h2
  | succ d ih =>
    intro n acc h1 h2
    by_cases hn : n < s.length
    · by_cases he : oE (s.drop n) = 0
      · have hx := next_lt s n hn he
        rw [spl_step hn he] at h2 ⊢
        exact ih _ _ (by omega) h2
      · rw [spl_err hn he]
    · rw [spl_end hn] at h2; exact absurd rfl h2
theorem splitR_spl (s : List UInt8) (h : s.length ≤ 4096) : splitR s = spl s (blankF false s) [] := by
  unfold splitR spl; rw [if_neg (by omega)]
/-- a token's row, its place within so much -/
def rowIn (L : Nat) (e : List PV) : Prop := ∃ (k : Int) (t : List UInt8) (m p : Int), e = [.int .i64 k, .str t, .int .i64 m, .int .i64 p] ∧ 0 ≤ p ∧ p ≤ L
theorem spl_rows (s : List UInt8) : ∀ (d n : Nat) (acc : List (List PV)), s.length - n ≤ d → n ≤ s.length → acc.length ≤ n → (∀ e ∈ acc, rowIn s.length e) →
    (spl s n acc).1.length ≤ s.length ∧ ∀ e ∈ (spl s n acc).1, rowIn s.length e := by
  intro d
  induction d with
  | zero => intro n acc h1 h2 h3 h4; rw [spl_end (by omega)]; exact ⟨by show acc.length ≤ s.length; omega, h4⟩
  | succ d ih =>
    intro n acc h1 h2 h3 h4
    by_cases hn : n < s.length
    · by_cases he : oE (s.drop n) = 0
      · have hx := next_lt s n hn he
        rw [spl_step hn he]
        refine ih _ _ (by omega) hx.2 (by rw [List.length_append]; simp only [List.length_cons, List.length_nil]; omega) ?_
        intro e h
        rcases List.mem_append.mp h with h | h
        · exact h4 e h
        · rw [List.mem_singleton] at h
          subst h
          exact ⟨_, _, _, _, rfl, by omega, by omega⟩
      · rw [spl_err hn he]; exact ⟨by simp, by simp⟩
    · rw [spl_end hn]; exact ⟨by show acc.length ≤ s.length; omega, h4⟩
theorem sP_rows (s : List UInt8) (h : s.length ≤ 4096) : (sP s).length ≤ s.length ∧ ∀ e ∈ sP s, rowIn s.length e := by
  unfold sP
  rw [splitR_spl s h]
  exact spl_rows s _ _ [] (Nat.le_refl _) (blankF_le s false) (by simp) (by simp)
theorem sP_nil (s : List UInt8) (h : s.length ≤ 4096) (e : sE s ≠ 0) : sP s = [] := by
  unfold sP sE at *
  rw [splitR_spl s h] at e ⊢
  exact spl_nil s _ _ _ (Nat.le_refl _) e
theorem sZ_iff (s : List UInt8) : sZ s = true ↔ sP s = [] := by
  unfold sZ sP; exact List.isEmpty_iff
end Go.Proofs.Ytkkainkhjimcmaa.L
