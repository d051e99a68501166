import Derived.Test.YtkkainkhjimcmaaTwo2
/-
LexTwo, the plain law: a text, a line's end, and another text.
-/
namespace Go.Proofs.Ytkkainkhjimcmaa.L
open Go Go.VM
set_option linter.unusedVariables false
theorem blankF_t (c : UInt8) (r : List UInt8) : blankF true (c :: r) = 1 + blankF (c != 10) r := rfl
theorem blankF_f (c : UInt8) (r : List UInt8) : blankF false (c :: r) = if isB c then 1 + blankF false r else if c = 35 then 1 + blankF true r else 0 := rfl
theorem blankF_join (b : List UInt8) : ∀ (u : List UInt8) (cm : Bool), (blankF cm u < u.length → blankF cm (u ++ 10 :: b) = blankF cm u) ∧ (blankF cm u = u.length → blankF cm (u ++ 10 :: b) = u.length + 1 + blankF false b)
  | [], cm => by
    refine ⟨fun h => by simp at h, fun _ => ?_⟩
    cases cm
    · rw [List.nil_append, blankF_f, if_pos (by decide)]; simp
    · rw [List.nil_append, blankF_t]; simp
  | c :: r, true => by
    have ih := blankF_join b r (c != 10)
    have hle := blankF_le r (c != 10)
    rw [List.cons_append, blankF_t, blankF_t, List.length_cons]
    refine ⟨fun h => by rw [ih.1 (by omega)], fun h => by rw [ih.2 (by omega)]; omega⟩
  | c :: r, false => by
    have ih1 := blankF_join b r false
    have ih2 := blankF_join b r true
    have hl1 := blankF_le r false
    have hl2 := blankF_le r true
    rw [List.cons_append, blankF_f, blankF_f, List.length_cons]
    by_cases h1 : isB c = true
    · rw [if_pos h1, if_pos h1]
      exact ⟨fun h => by rw [ih1.1 (by omega)], fun h => by rw [ih1.2 (by omega)]; omega⟩
    · rw [if_neg h1, if_neg h1]
      by_cases h2 : c = 35
      · rw [if_pos h2, if_pos h2]
        exact ⟨fun h => by rw [ih2.1 (by omega)], fun h => by rw [ih2.2 (by omega)]; omega⟩
      · rw [if_neg h2, if_neg h2]
        exact ⟨fun _ => rfl, fun h => by omega⟩
theorem runN_join (b : List UInt8) : ∀ u : List UInt8, runN (u ++ 10 :: b) = runN u
  | [] => rfl
  | c :: r => by
    have ih := runN_join b r
    unfold runN at ih ⊢
    rw [List.cons_append, List.takeWhile_cons, List.takeWhile_cons]
    split
    · simp [ih]
    · rfl
theorem hpF_join (b : List UInt8) : ∀ u : List UInt8, u ≠ [] → hpF (u ++ 10 :: b) = hpF u
  | [], h => absurd rfl h
  | [c], _ => by
    unfold hpF
    simp
  | c :: d :: r, _ => by unfold hpF; simp
theorem oneR_join (b u : List UInt8) (hu : u ≠ []) : oneR (u ++ 10 :: b) = oneR u := by
  match u, hu with
  | c :: r, _ =>
    have h1 := runN_join b (c :: r)
    have h2 := hpF_join b (c :: r) (by simp)
    have hle : runN (c :: r) ≤ (c :: r).length := tw_le _ _
    have ht : (c :: r ++ 10 :: b).take (runN (c :: r)) = (c :: r).take (runN (c :: r)) := List.take_append_of_le_length hle
    rw [List.cons_append] at h1 h2 ht ⊢
    rw [oneR_cons, oneR_cons, h1, h2, ht]

/-! ### tokens from a place on, without fuel -/
def spl (s : List UInt8) (n : Nat) (acc : List (List PV)) : List (List PV) × Int × Int := splitF s (s.length - n + 1) n acc
theorem spl_step {s : List UInt8} {n : Nat} {acc : List (List PV)} (hn : n < s.length) (he : oE (s.drop n) = 0) : spl s n acc = spl s (nextN s n) (acc ++ [rowT s n]) := by
  have hx := next_lt s n hn he
  unfold spl
  rw [show splitF s (s.length - n + 1) n acc = splitF s (s.length - n) (nextN s n) (acc ++ [rowT s n]) by simp only [splitF, hn, he, if_true]]
  exact splitF_fuel s _ _ _ _ (by omega) (by omega)
theorem spl_err {s : List UInt8} {n : Nat} {acc : List (List PV)} (hn : n < s.length) (he : oE (s.drop n) ≠ 0) : spl s n acc = ([], (n : Int), oE (s.drop n)) := by
  unfold spl; simp only [splitF, hn, he, if_true, if_false]
theorem spl_end {s : List UInt8} {n : Nat} {acc : List (List PV)} (hn : ¬ n < s.length) : spl s n acc = (acc, 0, 0) := by
  unfold spl; simp only [splitF, hn, if_false]
section
variable (a b : List UInt8)
theorem drop_in {n : Nat} (h : n ≤ a.length) : (a ++ 10 :: b).drop n = a.drop n ++ 10 :: b := List.drop_append_of_le_length h
theorem drop_out (m : Nat) : (a ++ 10 :: b).drop (a.length + 1 + m) = b.drop m := by
  rw [show a.length + 1 + m = a.length + (1 + m) by omega, List.drop_length_add_append, Nat.add_comm 1 m, List.drop_succ_cons]
/-- where the next token is, behind a's place n -/
def posC (n : Nat) : Nat := if n < a.length then n else a.length + 1 + blankF false b
theorem next_in {n : Nat} (h : n < a.length) (he : oE (a.drop n) = 0) : nextN (a ++ 10 :: b) n = posC a b (nextN a n) := by
  have hne : a.drop n ≠ [] := by intro e; have := congrArg List.length e; rw [List.length_drop] at this; simp only [List.length_nil] at this; omega
  have ho : oX ((a ++ 10 :: b).drop n) = oX (a.drop n) := by unfold oX; rw [drop_in a b (by omega), oneR_join b _ hne]
  have hl := one_len _ he
  rw [List.length_drop] at hl
  have hle := blankF_le (a.drop (n + (oX (a.drop n)).length)) false
  rw [List.length_drop] at hle
  have hj := blankF_join b (a.drop (n + (oX (a.drop n)).length)) false
  rw [List.length_drop] at hj
  unfold nextN posC
  rw [ho, drop_in a b (by omega)]
  by_cases hh : n + (oX (a.drop n)).length + blankF false (a.drop (n + (oX (a.drop n)).length)) < a.length
  · rw [if_pos hh, hj.1 (by omega)]
  · rw [if_neg hh, hj.2 (by omega)]; omega
theorem row_in {n : Nat} (h : n < a.length) : rowT (a ++ 10 :: b) n = rowT a n ∧ oE ((a ++ 10 :: b).drop n) = oE (a.drop n) := by
  have hne : a.drop n ≠ [] := by intro e; have := congrArg List.length e; rw [List.length_drop] at this; simp only [List.length_nil] at this; omega
  unfold rowT oE oK oX oM
  rw [drop_in a b (by omega), oneR_join b _ hne]
  exact ⟨rfl, rfl⟩
theorem spl_in : ∀ (d n : Nat) (acc : List (List PV)), a.length - n ≤ d → n ≤ a.length →
    (((spl a n acc).2.2 ≠ 0 → spl (a ++ 10 :: b) (posC a b n) acc = spl a n acc) ∧ ((spl a n acc).2.2 = 0 → spl (a ++ 10 :: b) (posC a b n) acc = spl (a ++ 10 :: b) (a.length + 1 + blankF false b) (spl a n acc).1)) := by
  intro d
  induction d with
  | zero =>
    intro n acc h1 h2
    have hn : ¬ n < a.length := by omega
    rw [spl_end hn]
    refine ⟨fun h => absurd rfl h, fun _ => ?_⟩
    unfold posC; rw [if_neg hn]
  | succ d ih =>
    intro n acc h1 h2
    by_cases hn : n < a.length
    · have hc : n < (a ++ 10 :: b).length := by rw [List.length_append]; omega
      have hr := row_in a b hn
      have hp : posC a b n = n := by unfold posC; rw [if_pos hn]
      rw [hp]
      by_cases he : oE (a.drop n) = 0
      · have hx := next_lt a n hn he
        rw [spl_step hn he, spl_step hc (by rw [hr.2]; exact he), next_in a b hn he, hr.1]
        exact ih _ _ (by omega) hx.2
      · rw [spl_err hn he, spl_err hc (by rw [hr.2]; exact he), hr.2]
        exact ⟨fun _ => rfl, fun h => absurd h he⟩
    · rw [spl_end hn]
      refine ⟨fun h => absurd rfl h, fun _ => ?_⟩
      unfold posC; rw [if_neg hn]
theorem row_out (m : Nat) : rowT (a ++ 10 :: b) (a.length + 1 + m) = moved (a.length + 1) (rowT b m) := by
  unfold rowT moved
  rw [drop_out]
  simp only [List.cons.injEq, PV.int.injEq, true_and, and_true]
  omega
theorem next_out (m : Nat) : nextN (a ++ 10 :: b) (a.length + 1 + m) = a.length + 1 + nextN b m := by
  unfold nextN
  rw [drop_out, show a.length + 1 + m + (oX (b.drop m)).length = a.length + 1 + (m + (oX (b.drop m)).length) by omega, drop_out]
  omega
theorem spl_out : ∀ (d m : Nat) (acc acc' : List (List PV)), b.length - m ≤ d →
    (((spl b m acc').2.2 ≠ 0 → spl (a ++ 10 :: b) (a.length + 1 + m) (acc ++ acc'.map (moved (a.length + 1))) = ([], (spl b m acc').2.1 + (a.length + 1), (spl b m acc').2.2)) ∧
     ((spl b m acc').2.2 = 0 → spl (a ++ 10 :: b) (a.length + 1 + m) (acc ++ acc'.map (moved (a.length + 1))) = (acc ++ (spl b m acc').1.map (moved (a.length + 1)), 0, 0))) := by
  intro d
  induction d with
  | zero =>
    intro m acc acc' h1
    have hm : ¬ m < b.length := by omega
    have hc : ¬ a.length + 1 + m < (a ++ 10 :: b).length := by rw [List.length_append, List.length_cons]; omega
    rw [spl_end hm, spl_end hc]
    exact ⟨fun h => absurd rfl h, fun _ => rfl⟩
  | succ d ih =>
    intro m acc acc' h1
    by_cases hm : m < b.length
    · have hc : a.length + 1 + m < (a ++ 10 :: b).length := by rw [List.length_append, List.length_cons]; omega
      by_cases he : oE (b.drop m) = 0
      · have hx := next_lt b m hm he
        rw [spl_step hm he, spl_step hc (by rw [drop_out]; exact he), next_out, row_out]
        have := ih (nextN b m) acc (acc' ++ [rowT b m]) (by omega)
        rw [List.map_append, ← List.append_assoc] at this
        exact this
      · rw [spl_err hm he, spl_err hc (by rw [drop_out]; exact he), drop_out]
        refine ⟨fun _ => ?_, fun h => absurd h he⟩
        simp only [Prod.mk.injEq, true_and, and_true]
        omega
    · have hc : ¬ a.length + 1 + m < (a ++ 10 :: b).length := by rw [List.length_append, List.length_cons]; omega
      rw [spl_end hm, spl_end hc]
      exact ⟨fun h => absurd rfl h, fun _ => rfl⟩
end
theorem spl_nil (s : List UInt8) : ∀ (d n : Nat) (acc : List (List PV)), s.length - n ≤ d → (spl s n acc).2.2 ≠ 0 → (spl s n acc).1 = [] := by
  intro d
  induction d with
  | zero => intro n acc h1 h2; rw [spl_end (by omega)] at h2; exact absurd rfl h2
  | succ d ih =>
    intro n acc h1 h2
    by_cases hn : n < s.length
    · by_cases he : oE (s.drop n) = 0
      · have hx := next_lt s n hn he
        rw [spl_step hn he] at h2 ⊢
        exact ih _ _ (by omega) h2
      · rw [spl_err hn he]
    · rw [spl_end hn] at h2; exact absurd rfl h2
theorem splitR_spl (s : List UInt8) (h : s.length ≤ 4096) : splitR s = spl s (blankF false s) [] := by
  unfold splitR spl; rw [if_neg (by omega)]
/-- a text, a line's end, and another text -/
theorem split_join (a b : List UInt8) (ha : a.length ≤ 1000) (hb : b.length ≤ 1000) :
    (sE a ≠ 0 → sE (a ++ 10 :: b) = sE a ∧ sP (a ++ 10 :: b) = []) ∧
    (sE a = 0 → sE b ≠ 0 → sE (a ++ 10 :: b) = sE b ∧ sAt (a ++ 10 :: b) = sAt b + (a.length + 1) ∧ sP (a ++ 10 :: b) = []) ∧
    (sE a = 0 → sE b = 0 → sE (a ++ 10 :: b) = 0 ∧ sP (a ++ 10 :: b) = sP a ++ (sP b).map (moved (a.length + 1))) := by
  have hc : splitR (a ++ 10 :: b) = spl (a ++ 10 :: b) (posC a b (blankF false a)) [] := by
    rw [splitR_spl _ (by rw [List.length_append, List.length_cons]; omega)]
    congr 1
    have hj := blankF_join b a false
    have hl := blankF_le a false
    unfold posC
    by_cases h : blankF false a < a.length
    · rw [if_pos h, hj.1 h]
    · rw [if_neg h, hj.2 (by omega)]
  have h1 := spl_in a b _ (blankF false a) [] (Nat.le_refl _) (blankF_le a false)
  have h2 := spl_out a b _ (blankF false b) (spl a (blankF false a) []).1 [] (Nat.le_refl _)
  rw [List.map_nil, List.append_nil] at h2
  unfold sE sP sAt
  rw [hc, splitR_spl a (by omega), splitR_spl b (by omega)]
  refine ⟨fun e => ?_, fun e e' => ?_, fun e e' => ?_⟩
  · rw [h1.1 e]; exact ⟨rfl, spl_nil a _ _ _ (Nat.le_refl _) e⟩
  · rw [h1.2 e, h2.1 e']; exact ⟨rfl, rfl, rfl⟩
  · rw [h1.2 e, h2.2 e']; exact ⟨rfl, rfl⟩
/-- a token's row, its place within so much -/
def rowIn (L : Nat) (e : List PV) : Prop := ∃ (k : Int) (t : List UInt8) (m p : Int), e = [.int .i64 k, .str t, .int .i64 m, .int .i64 p] ∧ 0 ≤ p ∧ p ≤ L
theorem spl_rows (s : List UInt8) : ∀ (d n : Nat) (acc : List (List PV)), s.length - n ≤ d → n ≤ s.length → acc.length ≤ n → (∀ e ∈ acc, rowIn s.length e) →
    (spl s n acc).1.length ≤ s.length ∧ ∀ e ∈ (spl s n acc).1, rowIn s.length e := by
  intro d
  induction d with
  | zero => intro n acc h1 h2 h3 h4; rw [spl_end (by omega)]; exact ⟨by show acc.length ≤ s.length; omega, h4⟩
  | succ d ih =>
    intro n acc h1 h2 h3 h4
    by_cases hn : n < s.length
    · by_cases he : oE (s.drop n) = 0
      · have hx := next_lt s n hn he
        rw [spl_step hn he]
        refine ih _ _ (by omega) hx.2 (by rw [List.length_append]; simp only [List.length_cons, List.length_nil]; omega) ?_
        intro e h
        rcases List.mem_append.mp h with h | h
        · exact h4 e h
        · rw [List.mem_singleton] at h
          subst h
          exact ⟨_, _, _, _, rfl, by omega, by omega⟩
      · rw [spl_err hn he]; exact ⟨by simp, by simp⟩
    · rw [spl_end hn]; exact ⟨by show acc.length ≤ s.length; omega, h4⟩
theorem sP_rows (s : List UInt8) (h : s.length ≤ 4096) : (sP s).length ≤ s.length ∧ ∀ e ∈ sP s, rowIn s.length e := by
  unfold sP
  rw [splitR_spl s h]
  exact spl_rows s _ _ [] (Nat.le_refl _) (blankF_le s false) (by simp) (by simp)
theorem sP_nil (s : List UInt8) (h : s.length ≤ 4096) (e : sE s ≠ 0) : sP s = [] := by
  unfold sP sE at *
  rw [splitR_spl s h] at e ⊢
  exact spl_nil s _ _ _ (Nat.le_refl _) e
theorem sZ_iff (s : List UInt8) : sZ s = true ↔ sP s = [] := by
  unfold sZ sP; exact List.isEmpty_iff
theorem sAt_ok (s : List UInt8) (h : s.length ≤ 4096) (e : sE s = 0) : sAt s = 0 := by
  have main : ∀ (d n : Nat) (acc : List (List PV)), s.length - n ≤ d → (spl s n acc).2.2 = 0 → (spl s n acc).2.1 = 0 := by
    intro d
    induction d with
    | zero => intro n acc h1 _; rw [spl_end (by omega)]
    | succ d ih =>
      intro n acc h1 h2
      by_cases hn : n < s.length
      · by_cases he : oE (s.drop n) = 0
        · have hx := next_lt s n hn he
          rw [spl_step hn he] at h2 ⊢
          exact ih _ _ (by omega) h2
        · rw [spl_err hn he] at h2; exact absurd h2 he
      · rw [spl_end hn]
  unfold sAt; unfold sE at e
  rw [splitR_spl s h] at e ⊢
  exact main _ _ _ (Nat.le_refl _) e
theorem sAt_le (s : List UInt8) (h : s.length ≤ 4096) : 0 ≤ sAt s ∧ sAt s ≤ s.length := by
  have main : ∀ (d n : Nat) (acc : List (List PV)), s.length - n ≤ d → n ≤ s.length → 0 ≤ (spl s n acc).2.1 ∧ (spl s n acc).2.1 ≤ s.length := by
    intro d
    induction d with
    | zero => intro n acc h1 h2; rw [spl_end (by omega)]; simp
    | succ d ih =>
      intro n acc h1 h2
      by_cases hn : n < s.length
      · by_cases he : oE (s.drop n) = 0
        · have hx := next_lt s n hn he
          rw [spl_step hn he]
          exact ih _ _ (by omega) hx.2
        · rw [spl_err hn he]; simp only; omega
      · rw [spl_end hn]; simp
  unfold sAt
  rw [splitR_spl s h]
  exact main _ _ _ (Nat.le_refl _) (blankF_le s false)
end Go.Proofs.Ytkkainkhjimcmaa.L
