import Derived.Test.YtkkainkhjimcmaaSpl7
/-
LexWords, the plain law: tokens with blanks between are read as they were.
-/
namespace Go.Proofs.Ytkkainkhjimcmaa.L
open Go Go.VM
set_option linter.unusedVariables false
/-- a word that is a token, whole -/
def Tok (w : List UInt8) : Prop := oE w = 0 ∧ oX w = w
theorem tok_short (u : List UInt8) (h : oE u = 0) : (oX u).length ≤ 16 := by
  match u, h with
  | [], h => exact absurd h (by decide)
  | c :: r, h =>
    have hle : runN (c :: r) ≤ (c :: r).length := tw_le _ _
    have hl : ((c :: r).take (runN (c :: r))).length = runN (c :: r) := by rw [List.length_take]; omega
    unfold oE at h; unfold oX
    rw [oneR_cons] at h ⊢
    by_cases hn : 0 < runN (c :: r)
    · have hne : (c :: r).take (runN (c :: r)) ≠ [] := by
        intro e; have := congrArg List.length e; rw [hl] at this; simp only [List.length_nil] at this; omega
      rw [if_pos hn] at h ⊢
      by_cases hA : allDc ((c :: r).take (runN (c :: r))) = true
      · rw [if_pos hA] at h ⊢
        rw [numR_len _ hne h]
        have h6 : ¬ 6 < ((c :: r).take (runN (c :: r))).length := by
          intro h6
          unfold numR at h
          rw [if_pos h6] at h
          simp at h
        omega
      · rw [if_neg hA] at h ⊢
        by_cases hL : isL (Int.ofNat c.toNat) = false
        · rw [if_pos hL] at h; simp at h
        · rw [if_neg hL] at h ⊢
          by_cases h16 : 16 < runN (c :: r)
          · rw [if_pos h16] at h; simp at h
          · rw [if_neg h16]; show ((c :: r).take (runN (c :: r))).length ≤ 16; omega
    · rw [if_neg hn] at h ⊢
      by_cases hh : c = 45 ∧ hpF (c :: r) = true
      · rw [if_pos hh]; decide
      · rw [if_neg hh] at h ⊢
        by_cases hs : isSg c = true
        · rw [if_pos hs]; show 1 ≤ 16; decide
        · rw [if_neg hs] at h; simp at h
theorem bad_head (c : UInt8) : isB c = true ∨ c = 35 → isW c = false ∧ c ≠ 45 ∧ isSg c = false :=
  (by decide +kernel : ∀ n : Fin (2 ^ 8), isB ⟨⟨n⟩⟩ = true ∨ (⟨⟨n⟩⟩ : UInt8) = 35 → isW ⟨⟨n⟩⟩ = false ∧ (⟨⟨n⟩⟩ : UInt8) ≠ 45 ∧ isSg ⟨⟨n⟩⟩ = false) c.toBitVec.toFin
theorem tok_head {w : List UInt8} (h : Tok w) : ∃ c r, w = c :: r ∧ isB c = false ∧ c ≠ 35 := by
  match w, h with
  | [], h => exact absurd h.1 (by decide)
  | c :: r, h =>
    refine ⟨c, r, rfl, ?_⟩
    have key : ¬ (isB c = true ∨ c = 35) := by
      intro hb
      obtain ⟨h1, h2, h3⟩ := bad_head c hb
      have h0 := h.1
      unfold oE at h0
      rw [oneR_cons, noW h1, if_neg (by simp), if_neg (fun e => h2 e.1), if_neg (by rw [h3]; simp)] at h0
      simp at h0
    exact ⟨by cases hb : isB c with | false => rfl | true => exact absurd (.inl hb) key, fun e => key (.inr e)⟩
/-- what is put between -/
def gapL : List (List PV) := [[.str [32]], [.str [9, 32, 13]], [.str [35, 32, 120, 32, 59, 32, 57, 97, 10]], [.str [10, 10]]]
def isGap (g : List UInt8) : Prop := g = [32] ∨ g = [9, 32, 13] ∨ g = [35, 32, 120, 32, 59, 32, 57, 97, 10] ∨ g = [10, 10]
theorem gap_len {g : List UInt8} (h : isGap g) : g.length ≤ 9 := by
  rcases h with rfl | rfl | rfl | rfl <;> decide
theorem gap_blank {g : List UInt8} (h : isGap g) (r : List UInt8) : blankF false (g ++ r) = g.length + blankF false r := by
  rcases h with rfl | rfl | rfl | rfl <;> simp [blankF, isB] <;> omega
theorem gap_head {g : List UInt8} (h : isGap g) : ∃ x y, g = x :: y ∧ isW x = false ∧ x ≠ 62 := by
  rcases h with rfl | rfl | rfl | rfl <;> exact ⟨_, _, rfl, by decide, by decide⟩
theorem runN_sep {x : UInt8} (hx : isW x = false) (b : List UInt8) : ∀ u : List UInt8, runN (u ++ x :: b) = runN u
  | [] => by rw [List.nil_append, noW hx]; rfl
  | c :: r => by
    have ih := runN_sep hx b r
    unfold runN at ih ⊢
    rw [List.cons_append, List.takeWhile_cons, List.takeWhile_cons]
    split
    · simp [ih]
    · rfl
theorem hpF_sep {x : UInt8} (hx : x ≠ 62) (b : List UInt8) : ∀ u : List UInt8, u ≠ [] → hpF (u ++ x :: b) = hpF u
  | [], h => absurd rfl h
  | [c], _ => by
    unfold hpF
    simp [hx]
  | c :: d :: r, _ => by unfold hpF; simp
theorem oneR_sep {x : UInt8} (hx : isW x = false) (h62 : x ≠ 62) (b u : List UInt8) (hu : u ≠ []) : oneR (u ++ x :: b) = oneR u := by
  match u, hu with
  | c :: r, _ =>
    have h1 := runN_sep hx b (c :: r)
    have h2 := hpF_sep h62 b (c :: r) (by simp)
    have hle : runN (c :: r) ≤ (c :: r).length := tw_le _ _
    have ht : (c :: r ++ x :: b).take (runN (c :: r)) = (c :: r).take (runN (c :: r)) := List.take_append_of_le_length hle
    rw [List.cons_append] at h1 h2 ht ⊢
    rw [oneR_cons, oneR_cons, h1, h2, ht]
/-- words, each with what is behind it -/
abbrev Ps := List (List UInt8 × List UInt8)
def SP : Ps → List UInt8
  | [] => []
  | p :: ps => p.1 ++ (p.2 ++ SP ps)
def okP (ps : Ps) : Prop := ∀ p ∈ ps, Tok p.1 ∧ isGap p.2
theorem SP_append : ∀ (a b : Ps), SP (a ++ b) = SP a ++ SP b
  | [], _ => rfl
  | p :: a, b => by simp only [List.cons_append, SP, SP_append a b, List.append_assoc]
theorem SP_len : ∀ (ps : Ps), okP ps → (SP ps).length ≤ 25 * ps.length
  | [], _ => by simp [SP]
  | p :: ps, h => by
    have ih := SP_len ps fun q hq => h q (List.mem_cons_of_mem _ hq)
    obtain ⟨h1, h2⟩ := h p (by simp)
    have h3 := tok_short _ h1.1
    rw [h1.2] at h3
    have h4 := gap_len h2
    simp only [SP, List.length_append, List.length_cons]
    omega
theorem blank_SP : ∀ (ps : Ps), okP ps → blankF false (SP ps) = 0
  | [], _ => rfl
  | p :: ps, h => by
    obtain ⟨c, r, e, hb, h35⟩ := tok_head (h p (by simp)).1
    simp only [SP, e, List.cons_append]
    rw [blankF_f, if_neg (by rw [hb]; simp), if_neg h35]
def tkRow (n : Nat) (w : List UInt8) : List PV := [.int .i64 (oK w), .str w, .int .i64 (oM w), .int .i64 (n : Int)]
def tkRows : Nat → Ps → List (List PV)
  | _, [] => []
  | n, p :: ps => tkRow n p.1 :: tkRows (n + p.1.length + p.2.length) ps
theorem tkRows_len : ∀ (ps : Ps) (n : Nat), (tkRows n ps).length = ps.length
  | [], _ => rfl
  | p :: ps, n => by simp only [tkRows, List.length_cons, tkRows_len ps]
theorem tkRows_get : ∀ (ps : Ps) (n j : Nat) (p : List UInt8 × List UInt8), ps[j]? = some p → ∃ k m q : Int, (tkRows n ps)[j]? = some [.int .i64 k, .str p.1, .int .i64 m, .int .i64 q]
  | [], n, j, p, h => by simp at h
  | p :: ps, n, 0, q, h => by
    simp only [List.getElem?_cons_zero, Option.some.injEq] at h
    subst h
    exact ⟨_, _, _, rfl⟩
  | p :: ps, n, j + 1, q, h => by
    rw [List.getElem?_cons_succ] at h
    simp only [tkRows, List.getElem?_cons_succ]
    exact tkRows_get ps _ j q h
theorem words_spl : ∀ (ps : Ps) (pre : List UInt8) (acc : List (List PV)), okP ps → spl (pre ++ SP ps) pre.length acc = (acc ++ tkRows pre.length ps, 0, 0)
  | [], pre, acc, _ => by
    rw [spl_end (by simp [SP])]
    simp [tkRows]
  | p :: ps, pre, acc, h => by
    obtain ⟨w, gp⟩ := p
    have hr : okP ps := fun q hq => h q (List.mem_cons_of_mem _ hq)
    obtain ⟨ht, hg⟩ := h (w, gp) (by simp)
    simp only at ht hg
    obtain ⟨c, r, e, hb, h35⟩ := tok_head ht
    have hne : w ≠ [] := by rw [e]; simp
    obtain ⟨x, y, eg, hx, h62⟩ := gap_head hg
    have hd : (pre ++ SP ((w, gp) :: ps)).drop pre.length = w ++ (gp ++ SP ps) := by
      rw [List.drop_append_of_le_length (Nat.le_refl _), List.drop_length, List.nil_append]; rfl
    have h1 : oneR ((pre ++ SP ((w, gp) :: ps)).drop pre.length) = oneR w := by
      rw [hd, eg, List.cons_append]
      exact oneR_sep hx h62 _ w hne
    have hE : oE ((pre ++ SP ((w, gp) :: ps)).drop pre.length) = 0 := by unfold oE; rw [h1]; exact ht.1
    have hX : oX ((pre ++ SP ((w, gp) :: ps)).drop pre.length) = w := by unfold oX; rw [h1]; exact ht.2
    have hR : rowT (pre ++ SP ((w, gp) :: ps)) pre.length = tkRow pre.length w := by
      unfold rowT; rw [hX]; unfold oK oM; rw [h1]; rfl
    have hlt : pre.length < (pre ++ SP ((w, gp) :: ps)).length := by
      rw [List.length_append]; simp only [SP, e, List.length_append, List.length_cons]; omega
    have eT : pre ++ SP ((w, gp) :: ps) = (pre ++ w ++ gp) ++ SP ps := by simp only [SP, List.append_assoc]
    have hN : nextN (pre ++ SP ((w, gp) :: ps)) pre.length = (pre ++ w ++ gp).length := by
      unfold nextN
      rw [hX]
      have hd2 : (pre ++ SP ((w, gp) :: ps)).drop (pre.length + w.length) = gp ++ SP ps := by
        rw [show pre ++ SP ((w, gp) :: ps) = (pre ++ w) ++ (gp ++ SP ps) by simp only [SP, List.append_assoc], ← List.length_append, List.drop_append_of_le_length (Nat.le_refl _), List.drop_length, List.nil_append]
      rw [hd2, gap_blank hg, blank_SP ps hr]
      simp only [List.length_append]
      omega
    rw [spl_step hlt hE, hR, hN, eT, words_spl ps (pre ++ w ++ gp) _ hr, show (pre ++ w ++ gp).length = pre.length + w.length + gp.length by simp only [List.length_append]]
    simp only [tkRows, List.append_assoc, List.cons_append, List.nil_append]
theorem words_split (ps : Ps) (h : okP ps) (hl : ps.length ≤ 30) : splitR (SP ps) = (tkRows 0 ps, 0, 0) := by
  have h1 := SP_len ps h
  rw [splitR_spl _ (by omega), blank_SP ps h]
  have := words_spl ps [] [] h
  simpa using this
theorem spl_pre (s : List UInt8) : ∀ (d n : Nat) (acc : List (List PV)), s.length - n ≤ d → (spl s n acc).2.2 = 0 → ∃ r, (spl s n acc).1 = acc ++ r := by
  intro d
  induction d with
  | zero => intro n acc h1 h2; rw [spl_end (by omega)]; exact ⟨[], by simp⟩
  | succ d ih =>
    intro n acc h1 h2
    by_cases hn : n < s.length
    · by_cases he : oE (s.drop n) = 0
      · have hx := next_lt s n hn he
        rw [spl_step hn he] at h2 ⊢
        obtain ⟨r, hr⟩ := ih _ _ (by omega) h2
        exact ⟨[rowT s n] ++ r, by rw [hr, List.append_assoc]⟩
      · rw [spl_err hn he] at h2; exact absurd h2 he
    · rw [spl_end hn]; exact ⟨[], by simp⟩
/-- one token whose text is the word -/
theorem tok_of {w : List UInt8} {e : List PV} {k m q : Int} (h0 : sE w = 0) (h1 : (sP w)[0]? = some e) (he : e = [.int .i64 k, .str w, .int .i64 m, .int .i64 q]) : Tok w := by
  have hl : w.length ≤ 4096 := by
    rcases Nat.lt_or_ge 4096 w.length with h | h
    · unfold sE splitR at h0; rw [if_pos h] at h0; simp at h0
    · exact h
  unfold sE at h0
  unfold sP at h1
  rw [splitR_spl w hl] at h0 h1
  have hb := blankF_le w false
  by_cases hn : blankF false w < w.length
  · by_cases hE : oE (w.drop (blankF false w)) = 0
    · rw [spl_step hn hE] at h0 h1
      obtain ⟨r, hr⟩ := spl_pre w _ _ _ (Nat.le_refl _) h0
      rw [hr] at h1
      simp only [List.nil_append, List.cons_append, List.getElem?_cons_zero, Option.some.injEq] at h1
      rw [he] at h1
      unfold rowT at h1
      simp only [List.cons.injEq, PV.str.injEq] at h1
      have hx := h1.2.1
      have h3 := one_len _ hE
      rw [hx, List.length_drop] at h3
      have hz : blankF false w = 0 := by omega
      rw [hz, List.drop_zero] at hE hx
      exact ⟨hE, hx⟩
    · rw [spl_err hn hE] at h1; simp at h1
  · rw [spl_end hn] at h1; simp at h1
end Go.Proofs.Ytkkainkhjimcmaa.L
