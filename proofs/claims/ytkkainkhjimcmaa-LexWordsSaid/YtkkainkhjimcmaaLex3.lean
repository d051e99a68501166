import Derived.Test.YtkkainkhjimcmaaLex2
/-
A text's tokens: what lex.Split comes to.
-/
namespace Go.Proofs.Ytkkainkhjimcmaa.L
open Go Go.VM
set_option linter.unusedVariables false
set_option maxRecDepth 100000
set_option maxHeartbeats 4000000
theorem std_neqT {a b : Int} (h : a ≠ b) : stdF .cmp .neq a b = true := by
  show (a != b) = true
  simpa using h
theorem std_neqF {a b : Int} (h : a = b) : stdF .cmp .neq a b = false := by
  show (a != b) = false
  simpa using h

theorem numR_len (s : List UInt8) (hs : s ≠ []) (h : (numR s).2.2.2 = 0) : (numR s).2.1 = s := by
  unfold numR at h ⊢
  split
  · rename_i h6; rw [if_pos h6] at h; simp at h
  · rename_i h6
    rw [if_neg h6] at h
    split
    · rename_i c d r
      split
      · rename_i hc; simp only [hc, if_true] at h; simp at h
      · rfl
    · rfl
theorem one_len (s : List UInt8) (h : oE s = 0) : 0 < (oX s).length ∧ (oX s).length ≤ s.length := by
  match s, h with
  | [], h => exact absurd h (by decide)
  | c :: r, h =>
    have hle : runN (c :: r) ≤ (c :: r).length := tw_le _ _
    unfold oE at h; unfold oX
    rw [oneR_cons] at h ⊢
    by_cases hn : 0 < runN (c :: r)
    · have hne : (c :: r).take (runN (c :: r)) ≠ [] := by
        intro e; have := congrArg List.length e; rw [List.length_take] at this; simp only [List.length_nil] at this; omega
      have hl : ((c :: r).take (runN (c :: r))).length = runN (c :: r) := by rw [List.length_take]; omega
      rw [if_pos hn] at h ⊢
      by_cases hA : allDc ((c :: r).take (runN (c :: r))) = true
      · rw [if_pos hA] at h ⊢
        rw [numR_len _ hne h, hl]; exact ⟨hn, hle⟩
      · rw [if_neg hA] at h ⊢
        by_cases hL : isL (Int.ofNat c.toNat) = false
        · rw [if_pos hL] at h; simp at h
        · rw [if_neg hL] at h ⊢
          by_cases h16 : 16 < runN (c :: r)
          · rw [if_pos h16] at h; simp at h
          · rw [if_neg h16]; exact ⟨by rw [hl]; exact hn, by rw [hl]; exact hle⟩
    · rw [if_neg hn] at h ⊢
      by_cases hh : c = 45 ∧ hpF (c :: r) = true
      · rw [if_pos hh]
        refine ⟨by decide, ?_⟩
        have h2 := hh.2
        unfold hpF at h2
        have h3 := congrArg List.length (beq_iff_eq.mp h2)
        rw [List.length_take] at h3
        show 2 ≤ (c :: r).length
        simp only [List.length_cons, List.length_nil] at h3 ⊢
        omega
      · rw [if_neg hh] at h ⊢
        by_cases hs : isSg c = true
        · rw [if_pos hs]; exact ⟨by simp, by simp⟩
        · rw [if_neg hs] at h; simp at h

/-- a token's row, at its place -/
def rowT (s : List UInt8) (n : Nat) : List PV := [.int .i64 (oK (s.drop n)), .str (oX (s.drop n)), .int .i64 (oM (s.drop n)), .int .i64 (n : Int)]
/-- where the next token begins -/
def nextN (s : List UInt8) (n : Nat) : Nat := n + (oX (s.drop n)).length + blankF false (s.drop (n + (oX (s.drop n)).length))
/-- the tokens from a place on; or where, and why, there are none -/
def splitF (s : List UInt8) : Nat → Nat → List (List PV) → List (List PV) × Int × Int
  | 0, n, acc => (acc, 0, 0)
  | f + 1, n, acc => if n < s.length then
      if oE (s.drop n) = 0 then splitF s f (nextN s n) (acc ++ [rowT s n]) else ([], (n : Int), oE (s.drop n))
    else (acc, 0, 0)
theorem next_lt (s : List UInt8) (n : Nat) (hn : n < s.length) (h : oE (s.drop n) = 0) : n < nextN s n ∧ nextN s n ≤ s.length := by
  have h1 := one_len _ h
  have h2 := blankF_le (s.drop (n + (oX (s.drop n)).length)) false
  rw [List.length_drop] at h1 h2
  unfold nextN
  omega
theorem splitF_fuel (s : List UInt8) : ∀ (f g n : Nat) (acc : List (List PV)), s.length - n < f → s.length - n < g → splitF s f n acc = splitF s g n acc := by
  intro f
  induction f with
  | zero => intro g n acc h; omega
  | succ f ih =>
    intro g n acc h1 h2
    match g, h2 with
    | g + 1, h2 =>
      simp only [splitF]
      split
      · rename_i hn
        split
        · rename_i he
          have := next_lt s n hn he
          exact ih g _ _ (by omega) (by omega)
        · rfl
      · rfl

/-! ### the states of the loop -/
def I64 (n : Int) : SV := SV.p (PV.int IntKind.i64 n)
def stA (s : List UInt8) (n : Int) : St := { env := [(0, SV.p (PV.str s)), (5, SV.p PV.nils), (6, SV.p (PV.int IntKind.i64 n)), (13, SV.p (PV.int IntKind.i64 n)), (20, SV.undef), (42, SV.undef)], fr := [(7, [])], hp := [], out := [] }
def stB (s : List UInt8) (n a b : Int) (rows : List (List PV)) : St := { env := [(0, SV.p (PV.str s)), (5, SV.own 4 rows), (6, SV.p (PV.int IntKind.i64 n)), (13, SV.p (PV.int IntKind.i64 a)), (20, SV.p (PV.int IntKind.i64 b)), (42, SV.undef)], fr := [(7, [])], hp := [], out := [] }
def exA (s : List UInt8) (n : Int) : Ex × St := (Ex.exit 0, { env := [(0, SV.p (PV.str s)), (5, SV.p PV.nils), (6, SV.p (PV.int IntKind.i64 n)), (13, SV.p (PV.int IntKind.i64 n)), (17, SV.p (PV.bool false)), (20, SV.undef), (42, SV.undef)], fr := [(7, [])], hp := [], out := [] })
def exB (s : List UInt8) (n a b : Int) (rows : List (List PV)) : Ex × St := (Ex.exit 0, { env := [(0, SV.p (PV.str s)), (5, SV.own 4 rows), (6, SV.p (PV.int IntKind.i64 n)), (13, SV.p (PV.int IntKind.i64 a)), (17, SV.p (PV.bool false)), (20, SV.p (PV.int IntKind.i64 b)), (42, SV.undef)], fr := [(7, [])], hp := [], out := [] })
def erA (n e : Int) : Ex × St := (Ex.ret, { env := [(2, SV.p PV.nils), (3, SV.p (PV.int IntKind.i64 n)), (4, SV.p (PV.int IntKind.i64 e)), (5, SV.p PV.nils), (6, SV.p (PV.int IntKind.i64 n)), (8, SV.p (PV.int IntKind.i64 e)), (13, SV.p (PV.int IntKind.i64 n)), (20, SV.undef), (27, SV.p (PV.int IntKind.i64 e)), (30, SV.p (PV.int IntKind.i64 n)), (31, SV.p (PV.int IntKind.i64 e)), (42, SV.undef), (43, SV.undef)], fr := [(7, [])], hp := [], out := [] })
def erB (n a b e : Int) (rows : List (List PV)) : Ex × St := (Ex.ret, { env := [(2, SV.p PV.nils), (3, SV.p (PV.int IntKind.i64 n)), (4, SV.p (PV.int IntKind.i64 e)), (5, SV.own 4 rows), (6, SV.p (PV.int IntKind.i64 n)), (8, SV.p (PV.int IntKind.i64 e)), (13, SV.p (PV.int IntKind.i64 a)), (20, SV.p (PV.int IntKind.i64 b)), (27, SV.p (PV.int IntKind.i64 e)), (30, SV.p (PV.int IntKind.i64 n)), (31, SV.p (PV.int IntKind.i64 e)), (42, SV.undef), (43, SV.undef)], fr := [(7, [])], hp := [], out := [] })

/-- where the loop ends -/
def Fin7 (s : List UInt8) (v : List (List PV) × Int × Int) (r : Ex × St) : Prop :=
  (v.2.2 = 0 ∧ v.2.1 = 0 ∧ ((v.1 = [] ∧ ∃ m, r = exA s m) ∨ (v.1 ≠ [] ∧ ∃ m a b, r = exB s m a b v.1))) ∨
  (v.2.2 ≠ 0 ∧ v.1 = [] ∧ (r = erA v.2.1 v.2.2 ∨ ∃ a b rows, r = erB v.2.1 a b v.2.2 rows))

structure S7 where
  n : Nat
  rows : List (List PV)
  a : Int
  b : Int
def S7.st (s : List UInt8) (x : S7) : St := if x.rows = [] then stA s x.n else stB s x.n x.a x.b x.rows
theorem loop7 (s : List UInt8) (hs : s.length ≤ 4096) : ∀ x : S7, (x.n ≤ s.length ∧ x.rows.length ≤ x.n) → ∃ r, ExecTo (T (ps5 blankI okB oK oX oM oE okO)) ⟨0, 0⟩ (.loop b7a) (x.st s) r ∧ Fin7 s (splitF s (s.length - x.n + 1) x.n x.rows) r := by
  refine loop_rel (α := S7) (c := fun _ _ _ _ _ => none) (Lp := fun _ _ => none) okC_none okL_none (S7.st s) (fun x => s.length - x.n)
    (fun x r => Fin7 s (splitF s (s.length - x.n + 1) x.n x.rows) r) (fun x => x.n ≤ s.length ∧ x.rows.length ≤ x.n) ?_
  rintro ⟨n, rows, a, b⟩ ⟨hn, hr⟩
  simp only at hn hr
  rw [← symA_std]
  have hcut : stdF .scut s (stdF .toN (n : Int)) (stdF .slen s) = s.drop n := by
    show (s.take s.length).drop n = s.drop n
    rw [List.take_length]
  by_cases hlt : n < s.length
  · have g0 : stdF .cmp .lss (n : Int) (Int.ofNat (stdF .slen s)) = true := std_lssT (by show (n : Int) < (s.length : Int); omega)
    have g1 : stdF .cmp .leq 0 (n : Int) = true := std_leqT (by omega)
    have g2 : stdF .le (stdF .toN (n : Int)) (stdF .slen s) = true := std_leT (by show n ≤ s.length; omega)
    have g3 : stdF .le (stdF .slen s) (stdF .slen s) = true := std_leT (Nat.le_refl _)
    have g4 : okO (stdF .scut s (stdF .toN (n : Int)) (stdF .slen s)) = true := by
      rw [hcut]
      unfold okO okS
      have hne : s.drop n ≠ [] := by intro e; have := congrArg List.length e; rw [List.length_drop] at this; simp only [List.length_nil] at this; omega
      rw [Bool.and_eq_true]
      exact ⟨decide_eq_true (by rw [List.length_drop]; omega), by simpa using hne⟩
    by_cases he : oE (s.drop n) = 0
    · left
      have hnx := next_lt s n hlt he
      have hol := one_len _ he
      rw [List.length_drop] at hol
      have g5 : stdF .cmp .neq (oE (stdF .scut s (stdF .toN (n : Int)) (stdF .slen s))) 0 = false := by rw [hcut]; exact std_neqF he
      have e1 : stdF .ar .add .i64 (n : Int) (Int.ofNat (stdF .slen (oX (s.drop n)))) = ((n + (oX (s.drop n)).length : Nat) : Int) := by
        rw [std_add (by show _ ≤ (n : Int) + ((oX (s.drop n)).length : Int); omega) (by show (n : Int) + ((oX (s.drop n)).length : Int) ≤ _; omega)]; rfl
      have gV : okB s (stdF .ar .add .i64 (n : Int) (Int.ofNat (stdF .slen (oX (stdF .scut s (stdF .toN (n : Int)) (stdF .slen s)))))) = true := by
        rw [hcut, e1]
        unfold okB okS
        simp only [Bool.and_eq_true, decide_eq_true_eq]
        exact ⟨⟨by omega, by omega⟩, by omega⟩
      have hB : blankI s ((n + (oX (s.drop n)).length : Nat) : Int) = ((nextN s n : Nat) : Int) := by
        unfold blankI nextN
        rw [show ((n + (oX (s.drop n)).length : Nat) : Int).toNat = n + (oX (s.drop n)).length from rfl]
        omega
      have hF : splitF s (s.length - n + 1) n rows = splitF s (s.length - nextN s n + 1) (nextN s n) (rows ++ [rowT s n]) := by
        rw [show splitF s (s.length - n + 1) n rows = splitF s (s.length - n) (nextN s n) (rows ++ [rowT s n]) by simp only [splitF, hlt, he, if_true]]
        exact splitF_fuel s _ _ _ _ (by omega) (by omega)
      by_cases h0 : rows = []
      · subst h0
        have := it7a_2 stdF (look fl) blankI okB oK oX oM oE okO s n g0 g1 g2 g3 g4 g5 rfl rfl rfl (by rfl) gV
        rw [hcut, e1, hB] at this
        refine ⟨⟨nextN s n, [rowT s n], n, nextN s n⟩, ?_, ⟨hnx.2, by show 1 ≤ nextN s n; omega⟩, by show s.length - nextN s n < s.length - n; omega, fun r h => by rw [hF]; exact h⟩
        exact this
      · have gf : stdF .afit (stdF .rlen rows) (stdF .rpart [[.int .i64 (oK (stdF .scut s (stdF .toN (n : Int)) (stdF .slen s))), .str (oX (stdF .scut s (stdF .toN (n : Int)) (stdF .slen s))), .int .i64 (oM (stdF .scut s (stdF .toN (n : Int)) (stdF .slen s))), .int .i64 (n : Int)]] 0 (stdF .rlen [[.int .i64 (oK (stdF .scut s (stdF .toN (n : Int)) (stdF .slen s))), .str (oX (stdF .scut s (stdF .toN (n : Int)) (stdF .slen s))), .int .i64 (oM (stdF .scut s (stdF .toN (n : Int)) (stdF .slen s))), .int .i64 (n : Int)]])) 40 = true := decide_eq_true (by
          show (rows.length + 1) * 40 ≤ 70368744177664 ∧ rows.length + 1 ≤ 70368744177664
          omega)
        have := it7b_2 stdF (look fl) blankI okB oK oX oM oE okO s n a b rows g0 g1 g2 g3 g4 g5 rfl rfl (std_leT (by show 0 + rows.length ≤ rows.length; omega)) gf gV
        have er : stdF .rpart rows 0 (stdF .rlen rows) = rows := by show (rows.drop 0).take rows.length = rows; rw [List.drop_zero, List.take_length]
        rw [hcut, e1, hB, er] at this
        have hne : rows ++ [rowT s n] ≠ [] := by simp
        refine ⟨⟨nextN s n, rows ++ [rowT s n], a, nextN s n⟩, ?_, ⟨hnx.2, by show (rows ++ [rowT s n]).length ≤ nextN s n; rw [List.length_append]; simp only [List.length_cons, List.length_nil]; omega⟩, by show s.length - nextN s n < s.length - n; omega, fun r h => by rw [hF]; exact h⟩
        unfold S7.st
        simp only [h0, hne, if_false]
        exact this
    · right
      have g5 : stdF .cmp .neq (oE (stdF .scut s (stdF .toN (n : Int)) (stdF .slen s))) 0 = true := by rw [hcut]; exact std_neqT he
      have hF : splitF s (s.length - n + 1) n rows = ([], (n : Int), oE (s.drop n)) := by simp only [splitF, hlt, he, if_true, if_false]
      rw [hF]
      by_cases h0 : rows = []
      · subst h0
        have := it7a_1 stdF (look fl) blankI okB oK oX oM oE okO s n g0 g1 g2 g3 g4 g5
        rw [hcut] at this
        exact ⟨_, _, this, by simp, .inr ⟨he, rfl, .inl rfl⟩⟩
      · have := it7b_1 stdF (look fl) blankI okB oK oX oM oE okO s n a b rows g0 g1 g2 g3 g4 g5
        rw [hcut] at this
        refine ⟨_, (erB n a b (oE (s.drop n)) rows).2, ?_, by simp, .inr ⟨he, rfl, .inr ⟨a, b, rows, rfl⟩⟩⟩
        unfold S7.st
        simp only [h0, if_false]
        exact this
  · right
    have hn' : n = s.length := by omega
    have g0 : stdF .cmp .lss (n : Int) (Int.ofNat (stdF .slen s)) = false := std_lssF (by show ¬ ((n : Int) < (s.length : Int)); omega)
    have hF : splitF s (s.length - n + 1) n rows = (rows, 0, 0) := by simp only [splitF, hlt, if_false]
    rw [hF]
    by_cases h0 : rows = []
    · subst h0
      exact ⟨_, _, it7a_0 stdF (look fl) blankI okB oK oX oM oE okO s n g0, by simp, .inl ⟨rfl, rfl, .inl ⟨rfl, _, rfl⟩⟩⟩
    · refine ⟨_, (exB s n a b rows).2, ?_, by simp, .inl ⟨rfl, rfl, .inr ⟨h0, _, _, _, rfl⟩⟩⟩
      have := it7b_0 stdF (look fl) blankI okB oK oX oM oE okO s n a b rows g0
      unfold S7.st
      simp only [h0, if_false]
      exact this
/-- lex.Split -/
def splitR (s : List UInt8) : List (List PV) × Int × Int := if 4096 < s.length then ([], 0, 6) else splitF s (s.length - blankF false s + 1) (blankF false s) []
def splitV (v : List (List PV) × Int × Int) : SV := .tup [if v.1 = [] then .p .nils else .own 4 v.1, .p (.int .i64 v.2.1), .p (.int .i64 v.2.2)]
theorem run7 (s : List UInt8) : CallsTo (T (ps5 blankI okB oK oX oM oE okO)) ⟨0, 0⟩ 7 [.p (.str s)] [] [] (splitV (splitR s), [], []) := by
  refine CallsTo.fn okC_none allL_ok (vf := vf7) rfl ?_
  rw [← symA_std]
  unfold splitR
  by_cases hl : 4096 < s.length
  · rw [if_pos hl]
    exact sem7A0_0 stdF (look fl) blankI okB oK oX oM oE okO (allL (T (ps5 blankI okB oK oX oM oE okO)) ⟨0, 0⟩) s 0 0 0 0 [] (std_gtrT (by show (4096 : Int) < (s.length : Int); omega))
  · rw [if_neg hl]
    have hg := std_gtrF (a := (s.length : Int)) (b := 4096) (by omega)
    have hV : okB s 0 = true := by
      unfold okB okS
      simp only [Bool.and_eq_true, decide_eq_true_eq]
      omega
    have hb := blankF_le s false
    obtain ⟨r, h1, h2⟩ := loop7 s (by omega) ⟨blankF false s, [], 0, 0⟩ ⟨hb, by simp⟩
    have hB : blankI s 0 = ((blankF false s : Nat) : Int) := by unfold blankI; simp
    have hlp := allL_eq h1
    generalize splitF s (s.length - blankF false s + 1) (blankF false s) [] = v at h2
    have hst : S7.st s ⟨blankF false s, [], 0, 0⟩ = stA s (blankI s 0) := by rw [hB]; rfl
    rw [hst] at hlp
    rcases h2 with ⟨k1, k2, ⟨k3, m, rfl⟩ | ⟨k3, m, a, b, rfl⟩⟩ | ⟨k1, k2, rfl | ⟨a, b, rows, rfl⟩⟩
    · have := sem7A0_1 stdF (look fl) blankI okB oK oX oM oE okO (allL (T (ps5 blankI okB oK oX oM oE okO)) ⟨0, 0⟩) s m 0 0 0 [] hg hV hlp
      obtain ⟨v1, v2, v3⟩ := v
      simp only at k1 k2 k3
      subst k1 k2 k3
      exact this
    · have := sem7B0_1 stdF (look fl) blankI okB oK oX oM oE okO (allL (T (ps5 blankI okB oK oX oM oE okO)) ⟨0, 0⟩) s m a b 0 v.1 hg hV hlp (decide_eq_true rfl)
      obtain ⟨v1, v2, v3⟩ := v
      simp only at k1 k2 k3 this
      subst k1 k2
      unfold splitV
      simp only [k3, if_false]
      exact this
    · have := sem7A1_1 stdF (look fl) blankI okB oK oX oM oE okO (allL (T (ps5 blankI okB oK oX oM oE okO)) ⟨0, 0⟩) s v.2.1 0 0 v.2.2 [] hg hV hlp
      obtain ⟨v1, v2, v3⟩ := v
      simp only at k2 this
      subst k2
      exact this
    · have := sem7B1_1 stdF (look fl) blankI okB oK oX oM oE okO (allL (T (ps5 blankI okB oK oX oM oE okO)) ⟨0, 0⟩) s v.2.1 a b v.2.2 rows hg hV hlp
      obtain ⟨v1, v2, v3⟩ := v
      simp only at k2 this
      subst k2
      exact this
end Go.Proofs.Ytkkainkhjimcmaa.L
