import Derived.Test.YtkkainkhjimcmaaSpl2
/-
LexSplits, the plain law: a text and the text without its remarks have the same tokens.
-/
namespace Go.Proofs.Ytkkainkhjimcmaa.L
open Go Go.VM
set_option linter.unusedVariables false
theorem offS_no {b : Bool} {c : UInt8} (h : c ≠ 35) (hb : b = false) : offS b c = false := by
  subst hb; unfold offS; rw [if_neg h]; split <;> rfl
theorem offL_no : ∀ (s : List UInt8), (∀ x ∈ s, x ≠ 35) → offL false s = false
  | [], _ => rfl
  | c :: r, h => by
    have h1 := offS_no (b := false) (h c (by simp)) rfl
    show offL (offS false c) r = false
    rw [h1]
    exact offL_no r fun x hx => h x (List.mem_cons_of_mem _ hx)
theorem bare_no : ∀ (s : List UInt8) (b : Bool), ∀ x ∈ bareF b s, x ≠ 35
  | [], _, x, h => by simp [bareF] at h
  | c :: r, b, x, h => by
    simp only [bareF, List.mem_cons] at h
    rcases h with h | h
    · subst h
      by_cases hc : c = 35
      · subst hc
        have : offS b 35 = true := by unfold offS; rw [if_neg (by decide), if_pos rfl]
        rw [if_pos this]; decide
      · split
        · decide
        · exact hc
    · exact bare_no r _ x h
theorem bareF_drop (s : List UInt8) (n : Nat) (b : Bool) : (bareF b s).drop n = bareF (offL b (s.take n)) (s.drop n) := by
  by_cases h : n ≤ s.length
  · have e : bareF b s = bareF b (s.take n) ++ bareF (offL b (s.take n)) (s.drop n) := by
      rw [← bareF_append, List.take_append_drop]
    rw [e, List.drop_append_of_le_length (by rw [bareF_len, List.length_take]; omega), List.drop_of_length_le (by rw [bareF_len, List.length_take]; omega), List.nil_append]
  · rw [List.drop_of_length_le (by rw [bareF_len]; omega), List.drop_of_length_le (l := s) (by omega)]
    simp [bareF]
theorem isB32 : isB 32 = true := by decide
theorem bare_blank : ∀ (s : List UInt8) (b : Bool), blankF false (bareF b s) = blankF b s
  | [], b => by cases b <;> simp [bareF, blankF]
  | c :: r, true => by
    have ih := bare_blank r (c != 10)
    rw [blankF_t]
    have e : offS true c = (c != 10) := by
      unfold offS
      by_cases h : c = 10
      · subst h; rfl
      · rw [if_neg h]; split <;> simp [h]
    simp only [bareF, e]
    rw [blankF_f]
    by_cases h : c = 10
    · subst h
      rw [if_pos (by decide), ih]
    · rw [if_pos (by rw [if_pos (by simpa using h)]; exact isB32), ih]
  | c :: r, false => by
    have ih1 := bare_blank r true
    have ih2 := bare_blank r false
    rw [blankF_f]
    by_cases h : c = 35
    · subst h
      have e : offS false 35 = true := by decide
      simp only [bareF, e, if_true]
      rw [blankF_f, if_pos isB32, ih1, if_neg (by decide)]
    · have e : offS false c = false := offS_no h rfl
      simp only [bareF, e]
      rw [if_neg (by simp), blankF_f, ih2, if_neg h, if_neg h]
theorem off_blank : ∀ (s : List UInt8) (b : Bool), blankF b s < s.length → offL b (s.take (blankF b s)) = false
  | [], b, h => by simp at h
  | c :: r, true, h => by
    rw [blankF_t, List.length_cons] at h
    rw [blankF_t, Nat.add_comm 1, List.take_succ_cons]
    have e : offS true c = (c != 10) := by
      unfold offS
      by_cases h : c = 10
      · subst h; rfl
      · rw [if_neg h]; split <;> simp [h]
    show offL (offS true c) _ = false
    rw [e]
    exact off_blank r _ (by omega)
  | c :: r, false, h => by
    rw [blankF_f, List.length_cons] at h
    rw [blankF_f]
    by_cases hb : isB c = true
    · rw [if_pos hb] at h ⊢
      rw [Nat.add_comm 1, List.take_succ_cons]
      have hc : c ≠ 35 := by intro e; subst e; simp [isB] at hb
      show offL (offS false c) _ = false
      rw [offS_no hc rfl]
      exact off_blank r _ (by omega)
    · rw [if_neg hb] at h ⊢
      by_cases hc : c = 35
      · rw [if_pos hc] at h ⊢
        rw [Nat.add_comm 1, List.take_succ_cons]
        have e : offS false c = true := by subst hc; decide
        show offL (offS false c) _ = false
        rw [e]
        exact off_blank r _ (by omega)
      · rw [if_neg hc]; rfl
theorem W35 : isW 35 = false := by decide
theorem W32 : isW 32 = false := by decide
theorem bare_tw : ∀ (s : List UInt8), (bareF false s).takeWhile isW = s.takeWhile isW
  | [] => rfl
  | c :: r => by
    by_cases hc : c = 35
    · subst hc
      have e : offS false 35 = true := by decide
      simp only [bareF, e, if_true]
      rw [List.takeWhile_cons, List.takeWhile_cons, W35, W32]; simp
    · have e : offS false c = false := offS_no hc rfl
      simp only [bareF, e]
      rw [if_neg (by simp), List.takeWhile_cons, List.takeWhile_cons, bare_tw r]
theorem bare_run (s : List UInt8) : runN (bareF false s) = runN s := by unfold runN; rw [bare_tw]
theorem tw_take {α : Type} (p : α → Bool) : ∀ s : List α, s.take (s.takeWhile p).length = s.takeWhile p
  | [] => rfl
  | c :: r => by
    rw [List.takeWhile_cons]
    split
    · rw [List.length_cons, List.take_succ_cons, tw_take p r]
    · rfl
theorem tw_mem {α : Type} (p : α → Bool) : ∀ (s : List α) (x : α), x ∈ s.takeWhile p → p x = true
  | [], x, h => by simp at h
  | c :: r, x, h => by
    rw [List.takeWhile_cons] at h
    split at h
    · rcases List.mem_cons.mp h with h | h
      · subst h; assumption
      · exact tw_mem p r x h
    · simp at h
theorem take_run (s : List UInt8) : s.take (runN s) = s.takeWhile isW := tw_take isW s
theorem bare_take (s : List UInt8) : (bareF false s).take (runN s) = s.take (runN s) := by
  rw [take_run, ← bare_run, take_run, bare_tw]
theorem bare_hp : ∀ s : List UInt8, hpF (bareF false s) = hpF s
  | [] => rfl
  | [c] => by simp [bareF, hpF]
  | c :: d :: r => by
    unfold hpF
    simp only [bareF, List.take_succ_cons, List.take_zero]
    by_cases hc : c = 35
    · subst hc
      have e : offS false 35 = true := by decide
      rw [e]; simp
    · have e : offS false c = false := offS_no hc rfl
      rw [e]
      by_cases hd : d = 35
      · subst hd
        have e : offS false 35 = true := by decide
        rw [e]; simp
      · have e : offS false d = false := offS_no hd rfl
        rw [e]; simp
theorem bare_one (s : List UInt8) : oneR (bareF false s) = oneR s := by
  match s with
  | [] => rfl
  | c :: r =>
    have h1 := bare_run (c :: r)
    have h2 := bare_hp (c :: r)
    have h3 := bare_take (c :: r)
    by_cases hc : c = 35
    · subst hc
      have e : offS false 35 = true := by decide
      simp only [bareF, e, if_true] at h1 h2 h3 ⊢
      have z : runN (35 :: r) = 0 := by unfold runN; rw [List.takeWhile_cons, W35]; rfl
      rw [oneR_cons, oneR_cons, h1, z]
      rfl
    · have e : offS false c = false := offS_no hc rfl
      simp only [bareF, e] at h1 h2 h3 ⊢
      rw [if_neg (by simp)] at h1 h2 h3 ⊢
      rw [oneR_cons, oneR_cons, h1, h2, h3]
theorem sg35 : ∀ {c : UInt8}, isSg c = true → c ≠ 35 := by
  intro c h e; subst e; simp [isSg] at h
/-- a token is what the text begins with, and has no remark's letter -/
theorem one_tok (s : List UInt8) (h : oE s = 0) : s.take (oX s).length = oX s ∧ ∀ x ∈ oX s, x ≠ 35 := by
  match s, h with
  | [], h => exact absurd h (by decide)
  | c :: r, h =>
    have hle : runN (c :: r) ≤ (c :: r).length := tw_le _ _
    have hl : ((c :: r).take (runN (c :: r))).length = runN (c :: r) := by rw [List.length_take]; omega
    have hw : ∀ x ∈ (c :: r).take (runN (c :: r)), x ≠ 35 := by
      rw [take_run]
      intro x hx e
      subst e
      have := tw_mem isW _ _ hx
      rw [W35] at this
      simp at this
    unfold oE at h; unfold oX
    rw [oneR_cons] at h ⊢
    by_cases hn : 0 < runN (c :: r)
    · have hne : (c :: r).take (runN (c :: r)) ≠ [] := by
        intro e; have := congrArg List.length e; rw [hl] at this; simp only [List.length_nil] at this; omega
      rw [if_pos hn] at h ⊢
      by_cases hA : allDc ((c :: r).take (runN (c :: r))) = true
      · rw [if_pos hA] at h ⊢
        rw [numR_len _ hne h, hl]; exact ⟨rfl, hw⟩
      · rw [if_neg hA] at h ⊢
        by_cases hL : isL (Int.ofNat c.toNat) = false
        · rw [if_pos hL] at h; simp at h
        · rw [if_neg hL] at h ⊢
          by_cases h16 : 16 < runN (c :: r)
          · rw [if_pos h16] at h; simp at h
          · rw [if_neg h16]; exact ⟨by rw [hl], hw⟩
    · rw [if_neg hn] at h ⊢
      by_cases hh : c = 45 ∧ hpF (c :: r) = true
      · rw [if_pos hh]
        exact ⟨beq_iff_eq.mp hh.2, by decide⟩
      · rw [if_neg hh] at h ⊢
        by_cases hs : isSg c = true
        · rw [if_pos hs]; exact ⟨rfl, by intro x hx; simp only [List.mem_singleton] at hx; subst hx; exact sg35 hs⟩
        · rw [if_neg hs] at h; simp at h
theorem offL_append (b : Bool) (s u : List UInt8) : offL b (s ++ u) = offL (offL b s) u := by unfold offL; rw [List.foldl_append]
/-- tokens from a place that is within no remark -/
theorem bare_spl (s : List UInt8) : ∀ (d n : Nat) (acc : List (List PV)), s.length - n ≤ d → (n < s.length → offL false (s.take n) = false) → spl (bareF false s) n acc = spl s n acc := by
  intro d
  induction d with
  | zero =>
    intro n acc h1 h2
    rw [spl_end (s := s) (by omega), spl_end (s := bareF false s) (by rw [bareF_len]; omega)]
  | succ d ih =>
    intro n acc h1 h2
    by_cases hn : n < s.length
    · have ho := h2 hn
      have hnt : n < (bareF false s).length := by rw [bareF_len]; exact hn
      have hd : (bareF false s).drop n = bareF false (s.drop n) := by rw [bareF_drop, ho]
      have h1' : oneR ((bareF false s).drop n) = oneR (s.drop n) := by rw [hd, bare_one]
      have hE : oE ((bareF false s).drop n) = oE (s.drop n) := by unfold oE; rw [h1']
      have hX : oX ((bareF false s).drop n) = oX (s.drop n) := by unfold oX; rw [h1']
      have hr : rowT (bareF false s) n = rowT s n := by unfold rowT oK oX oM; rw [h1']
      by_cases he : oE (s.drop n) = 0
      · obtain ⟨t1, t2⟩ := one_tok _ he
        have hoff : offL false (s.take (n + (oX (s.drop n)).length)) = false := by
          rw [List.take_add, offL_append, ho, t1]; exact offL_no _ t2
        have hnx : nextN (bareF false s) n = nextN s n := by
          unfold nextN; rw [hX, bareF_drop, hoff, bare_blank]
        have hl := next_lt s n hn he
        rw [spl_step hn he, spl_step hnt (by rw [hE]; exact he), hnx, hr]
        refine ih _ _ (by omega) fun hlt => ?_
        unfold nextN at hlt ⊢
        rw [List.take_add, offL_append, hoff]
        exact off_blank _ _ (by rw [List.length_drop]; omega)
      · rw [spl_err hn he, spl_err hnt (by rw [hE]; exact he), hE]
    · rw [spl_end (s := s) hn, spl_end (s := bareF false s) (by rw [bareF_len]; exact hn)]
theorem bare_split (s : List UInt8) (h : s.length ≤ 4096) : splitR s = spl (bareF false s) (blankF false (bareF false s)) [] := by
  rw [splitR_spl s h, bare_blank, bare_spl s _ _ _ (Nat.le_refl _)]
  intro hlt
  exact off_blank s false hlt
end Go.Proofs.Ytkkainkhjimcmaa.L
