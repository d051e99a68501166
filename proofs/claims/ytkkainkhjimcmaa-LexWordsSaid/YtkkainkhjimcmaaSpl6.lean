import Derived.Test.YtkkainkhjimcmaaSpl5
/-
LexSplits: the reference's Split, a word's token.
-/
namespace Go.Proofs.Ytkkainkhjimcmaa.L
open Go Go.VM
set_option linter.unusedVariables false
set_option linter.unusedSectionVars false
set_option maxRecDepth 100000
set_option maxHeartbeats 4000000
section
variable (x : Sh) (t w : List UInt8) (i k : Int) (v al : Bool)
theorem g_3 : E8 c8_3 (s8 x t i [] [(50, bv false)]) = some (.normal, w8 x t i i [] [] []) := by
  unfold E8; rw [← symA_std]
  rcases x with _ | rows | ⟨rows, k0, k1, k2⟩
  · exact w3A_0 stdF (look fl) okS inB (bareF false) L8 t i 0 0 0 []
  · exact w3B_0 stdF (look fl) okS inB (bareF false) L8 t i 0 0 0 rows
  · exact w3C_0 stdF (look fl) okS inB (bareF false) L8 t i k0 k1 k2 rows
theorem g_4 (i : Nat) : E8 c8_4 (w8 x t i i [] [] []) = some (.normal, k8 x t i 0) := by
  unfold E8; rw [← symA_std]
  rcases x with _ | rows | ⟨rows, k0, k1, k2⟩
  · exact w4A_0 stdF (look fl) okS inB (bareF false) L8 t i 0 0 0 []
  · exact w4B_0 stdF (look fl) okS inB (bareF false) L8 t i 0 0 0 rows
  · exact w4C_0 stdF (look fl) okS inB (bareF false) L8 t i k0 k1 k2 rows
theorem g_5 (i : Nat) (ht : t.length ≤ 10000) (hi : i ≤ t.length) : E8 c8_5 (k8 x t i 0) = some (.normal, e8 x t i (runN (t.drop i))) := by
  have hl := loopk x t i ht hi
  generalize runN (t.drop i) = m at hl
  unfold E8; rw [← symA_std]
  cases m with
  | zero =>
    rcases x with _ | rows | ⟨rows, k0, k1, k2⟩
    · exact w5DA_0 stdF (look fl) okS inB (bareF false) L8 t [] i (i + 0 : Nat) 0 true _ [] hl
    · exact w5DB_0 stdF (look fl) okS inB (bareF false) L8 t [] i (i + 0 : Nat) 0 true _ rows hl
    · exact w5DC_0 stdF (look fl) okS inB (bareF false) L8 t [] i (i + 0 : Nat) k2 true _ rows hl
  | succ m =>
    rcases x with _ | rows | ⟨rows, k0, k1, k2⟩
    · exact w5EA_0 stdF (look fl) okS inB (bareF false) L8 t [] i (i + (m + 1) : Nat) 0 _ _ [] hl
    · exact w5EB_0 stdF (look fl) okS inB (bareF false) L8 t [] i (i + (m + 1) : Nat) 0 _ _ rows hl
    · exact w5EC_0 stdF (look fl) okS inB (bareF false) L8 t [] i (i + (m + 1) : Nat) k2 _ _ rows hl
theorem cut_drop' (a b : Nat) : stdF .scut t (stdF .toN (a : Int)) (stdF .toN ((a + b : Nat) : Int)) = (t.drop a).take b := by
  show (t.take (a + b)).drop a = _
  rw [List.drop_take, Nat.add_sub_cancel_left]
theorem g_6 (i m : Nat) (hm : i + m ≤ t.length) : E8 c8_6 (e8 x t i m) = some (.normal, w8 x t i ((i + m : Nat) : Int) [(8, bv (alK (t.drop i) m)), (9, SV.p (PV.str ((t.drop i).take m)))] [(86, v86 (t.drop i) m)] []) := by
  have h0 : stdF .cmp .leq 0 ((i + m : Nat) : Int) = true := std_leqT (by omega)
  have h1 : stdF .cmp .leq 0 (i : Int) = true := std_leqT (by omega)
  have h2 : stdF .le (stdF .toN (i : Int)) (stdF .toN ((i + m : Nat) : Int)) = true := std_leT (by show i ≤ i + m; omega)
  have h3 : stdF .le (stdF .toN ((i + m : Nat) : Int)) (stdF .slen t) = true := std_leT (by show i + m ≤ t.length; omega)
  rw [← cut_drop' t i m]
  unfold E8; rw [← symA_std]
  cases m with
  | zero =>
    rcases x with _ | rows | ⟨rows, k0, k1, k2⟩
    · exact w6DA_0 stdF (look fl) okS inB (bareF false) L8 t [] i (i + 0 : Nat) 0 true _ [] h0 h1 h2 h3
    · exact w6DB_0 stdF (look fl) okS inB (bareF false) L8 t [] i (i + 0 : Nat) 0 true _ rows h0 h1 h2 h3
    · exact w6DC_0 stdF (look fl) okS inB (bareF false) L8 t [] i (i + 0 : Nat) k2 true _ rows h0 h1 h2 h3
  | succ m =>
    rcases x with _ | rows | ⟨rows, k0, k1, k2⟩
    · exact w6EA_0 stdF (look fl) okS inB (bareF false) L8 t [] i (i + (m + 1) : Nat) 0 _ _ [] h0 h1 h2 h3
    · exact w6EB_0 stdF (look fl) okS inB (bareF false) L8 t [] i (i + (m + 1) : Nat) 0 _ _ rows h0 h1 h2 h3
    · exact w6EC_0 stdF (look fl) okS inB (bareF false) L8 t [] i (i + (m + 1) : Nat) k2 _ _ rows h0 h1 h2 h3
theorem g_7D : E8 c8_7 (w8 x t i k [(8, bv al), (9, SV.p (PV.str []))] [(86, SV.undef)] []) = some (.ret, r8 x i k 20) := by
  have h0 : stdF .cmp .eql (Int.ofNat (stdF .slen [])) 0 = true := rfl
  unfold E8; rw [← symA_std]
  rcases x with _ | rows | ⟨rows, k0, k1, k2⟩
  · exact w7DA_0 stdF (look fl) okS inB (bareF false) L8 t [] i k 0 true al [] h0
  · exact w7DB_0 stdF (look fl) okS inB (bareF false) L8 t [] i k 0 true al rows h0
  · exact w7DC_0 stdF (look fl) okS inB (bareF false) L8 t [] i k k2 true al rows h0
variable (c : UInt8) (r : List UInt8)
theorem g_7n : stdF .cmp .eql (Int.ofNat (stdF .slen (c :: r))) 0 = false := std_eqlF (by show ((r.length + 1 : Nat) : Int) ≠ 0; omega)
theorem g_7te (h1 : 1 < (c :: r).length) (h7 : (c :: r).length < 7) (hc : c = 48) : E8 c8_7 (w8 x t i k [(8, bv true), (9, SV.p (PV.str (c :: r)))] [(86, bv v)] []) = some (.ret, r8 x i k 20) := by
  have g0 := g_7n c r
  have g1 : stdF .cmp .gtr (Int.ofNat (stdF .slen (c :: r))) 1 = true := std_gtrT (by show (1 : Int) < ((c :: r).length : Int); omega)
  have g2 : stdF .cmp .lss (Int.ofNat (stdF .slen (c :: r))) 7 = true := std_lssT (by show ((c :: r).length : Int) < 7; omega)
  have g5 := u8_eq (n := 48) hc (by decide)
  unfold E8; rw [← symA_std]
  rcases x with _ | rows | ⟨rows, k0, k1, k2⟩
  · exact w7tA_2 stdF (look fl) okS inB (bareF false) L8 t (c :: r) i k 0 v true [] c g0 g1 g2 rfl rfl g5
  · exact w7tB_2 stdF (look fl) okS inB (bareF false) L8 t (c :: r) i k 0 v true rows c g0 g1 g2 rfl rfl g5
  · exact w7tC_2 stdF (look fl) okS inB (bareF false) L8 t (c :: r) i k k2 v true rows c g0 g1 g2 rfl rfl g5
theorem g_7t (h : ¬ (1 < (c :: r).length ∧ (c :: r).length < 7 ∧ c = 48)) : E8 c8_7 (w8 x t i k [(8, bv true), (9, SV.p (PV.str (c :: r)))] [(86, bv v)] []) = some (.normal, w8 x t i k [(8, bv true), (9, SV.p (PV.str (c :: r)))] [(86, bv v), (122, bv false)] []) := by
  have g0 := g_7n c r
  unfold E8; rw [← symA_std]
  by_cases h1 : 1 < (c :: r).length
  · have g1 : stdF .cmp .gtr (Int.ofNat (stdF .slen (c :: r))) 1 = true := std_gtrT (by show (1 : Int) < ((c :: r).length : Int); omega)
    by_cases h7 : (c :: r).length < 7
    · have g2 : stdF .cmp .lss (Int.ofNat (stdF .slen (c :: r))) 7 = true := std_lssT (by show ((c :: r).length : Int) < 7; omega)
      have g5 := u8_ne (n := 48) (c := c) (fun e => h ⟨h1, h7, e⟩) (by decide)
      rcases x with _ | rows | ⟨rows, k0, k1, k2⟩
      · exact w7tA_3 stdF (look fl) okS inB (bareF false) L8 t (c :: r) i k 0 v true [] c g0 g1 g2 rfl rfl g5
      · exact w7tB_3 stdF (look fl) okS inB (bareF false) L8 t (c :: r) i k 0 v true rows c g0 g1 g2 rfl rfl g5
      · exact w7tC_3 stdF (look fl) okS inB (bareF false) L8 t (c :: r) i k k2 v true rows c g0 g1 g2 rfl rfl g5
    · have g2 : stdF .cmp .lss (Int.ofNat (stdF .slen (c :: r))) 7 = false := std_lssF (by show ¬ ((c :: r).length : Int) < 7; omega)
      rcases x with _ | rows | ⟨rows, k0, k1, k2⟩
      · exact w7tA_1 stdF (look fl) okS inB (bareF false) L8 t (c :: r) i k 0 v true [] g0 g1 g2
      · exact w7tB_1 stdF (look fl) okS inB (bareF false) L8 t (c :: r) i k 0 v true rows g0 g1 g2
      · exact w7tC_1 stdF (look fl) okS inB (bareF false) L8 t (c :: r) i k k2 v true rows g0 g1 g2
  · have g1 : stdF .cmp .gtr (Int.ofNat (stdF .slen (c :: r))) 1 = false := std_gtrF (by show ¬ (1 : Int) < ((c :: r).length : Int); omega)
    rcases x with _ | rows | ⟨rows, k0, k1, k2⟩
    · exact w7tA_0 stdF (look fl) okS inB (bareF false) L8 t (c :: r) i k 0 v true [] g0 g1
    · exact w7tB_0 stdF (look fl) okS inB (bareF false) L8 t (c :: r) i k 0 v true rows g0 g1
    · exact w7tC_0 stdF (look fl) okS inB (bareF false) L8 t (c :: r) i k k2 v true rows g0 g1
theorem g_7fe (hc : isDc c = true) : E8 c8_7 (w8 x t i k [(8, bv false), (9, SV.p (PV.str (c :: r)))] [(86, bv v)] []) = some (.ret, r8 x i k 20) := by
  have g0 := g_7n c r
  have g4 := (in_dig c).trans hc
  unfold E8; rw [← symA_std]
  rcases x with _ | rows | ⟨rows, k0, k1, k2⟩
  · exact w7fA_0 stdF (look fl) okS inB (bareF false) L8 t (c :: r) i k 0 v true [] c g0 rfl rfl ok_dig g4
  · exact w7fB_0 stdF (look fl) okS inB (bareF false) L8 t (c :: r) i k 0 v true rows c g0 rfl rfl ok_dig g4
  · exact w7fC_0 stdF (look fl) okS inB (bareF false) L8 t (c :: r) i k k2 v true rows c g0 rfl rfl ok_dig g4
theorem g_7f (hc : isDc c = false) : E8 c8_7 (w8 x t i k [(8, bv false), (9, SV.p (PV.str (c :: r)))] [(86, bv v)] []) = some (.normal, w8 x t i k [(8, bv false), (9, SV.p (PV.str (c :: r)))] [(86, bv v), (122, bv false)] []) := by
  have g0 := g_7n c r
  have g4 := (in_dig c).trans hc
  unfold E8; rw [← symA_std]
  rcases x with _ | rows | ⟨rows, k0, k1, k2⟩
  · exact w7fA_1 stdF (look fl) okS inB (bareF false) L8 t (c :: r) i k 0 v true [] c g0 rfl rfl ok_dig g4
  · exact w7fB_1 stdF (look fl) okS inB (bareF false) L8 t (c :: r) i k 0 v true rows c g0 rfl rfl ok_dig g4
  · exact w7fC_1 stdF (look fl) okS inB (bareF false) L8 t (c :: r) i k k2 v true rows c g0 rfl rfl ok_dig g4
theorem g_8te (h : 6 < w.length) : E8 c8_8 (w8 x t i k [(8, bv true), (9, SV.p (PV.str w))] [(86, bv v), (122, bv false)] []) = some (.ret, r8 x i k 6) := by
  have g0 : stdF .cmp .gtr (Int.ofNat (stdF .slen w)) 6 = true := std_gtrT (by show (6 : Int) < (w.length : Int); omega)
  unfold E8; rw [← symA_std]
  rcases x with _ | rows | ⟨rows, k0, k1, k2⟩
  · exact w8tA_0 stdF (look fl) okS inB (bareF false) L8 t w i k 0 v true [] g0
  · exact w8tB_0 stdF (look fl) okS inB (bareF false) L8 t w i k 0 v true rows g0
  · exact w8tC_0 stdF (look fl) okS inB (bareF false) L8 t w i k k2 v true rows g0
theorem g_8t (h : ¬ 6 < w.length) : E8 c8_8 (w8 x t i k [(8, bv true), (9, SV.p (PV.str w))] [(86, bv v), (122, bv false)] []) = some (.normal, w8 x t i k [(8, bv true), (9, SV.p (PV.str w))] [(86, bv v), (134, bv false)] []) := by
  have g0 : stdF .cmp .gtr (Int.ofNat (stdF .slen w)) 6 = false := std_gtrF (by show ¬ (6 : Int) < (w.length : Int); omega)
  have g1 : stdF .cmp .gtr (Int.ofNat (stdF .slen w)) 16 = false := std_gtrF (by show ¬ (16 : Int) < (w.length : Int); omega)
  unfold E8; rw [← symA_std]
  rcases x with _ | rows | ⟨rows, k0, k1, k2⟩
  · exact w8tA_2 stdF (look fl) okS inB (bareF false) L8 t w i k 0 v true [] g0 g1
  · exact w8tB_2 stdF (look fl) okS inB (bareF false) L8 t w i k 0 v true rows g0 g1
  · exact w8tC_2 stdF (look fl) okS inB (bareF false) L8 t w i k k2 v true rows g0 g1
theorem g_8fe (h : 16 < w.length) : E8 c8_8 (w8 x t i k [(8, bv false), (9, SV.p (PV.str w))] [(86, bv v), (122, bv false)] []) = some (.ret, r8 x i k 6) := by
  have g0 : stdF .cmp .gtr (Int.ofNat (stdF .slen w)) 16 = true := std_gtrT (by show (16 : Int) < (w.length : Int); omega)
  unfold E8; rw [← symA_std]
  rcases x with _ | rows | ⟨rows, k0, k1, k2⟩
  · exact w8fA_0 stdF (look fl) okS inB (bareF false) L8 t w i k 0 v true [] g0
  · exact w8fB_0 stdF (look fl) okS inB (bareF false) L8 t w i k 0 v true rows g0
  · exact w8fC_0 stdF (look fl) okS inB (bareF false) L8 t w i k k2 v true rows g0
theorem g_8f (h : ¬ 16 < w.length) : E8 c8_8 (w8 x t i k [(8, bv false), (9, SV.p (PV.str w))] [(86, bv v), (122, bv false)] []) = some (.normal, w8 x t i k [(8, bv false), (9, SV.p (PV.str w))] [(86, bv v), (134, bv false)] []) := by
  have g0 : stdF .cmp .gtr (Int.ofNat (stdF .slen w)) 16 = false := std_gtrF (by show ¬ (16 : Int) < (w.length : Int); omega)
  unfold E8; rw [← symA_std]
  rcases x with _ | rows | ⟨rows, k0, k1, k2⟩
  · exact w8fA_1 stdF (look fl) okS inB (bareF false) L8 t w i k 0 v true [] g0
  · exact w8fB_1 stdF (look fl) okS inB (bareF false) L8 t w i k 0 v true rows g0
  · exact w8fC_1 stdF (look fl) okS inB (bareF false) L8 t w i k k2 v true rows g0
theorem g_9 : E8 c8_9 (w8 x t i k [(8, bv al), (9, SV.p (PV.str w))] [(86, bv v), (134, bv false)] []) = some (.normal, w8 x t i k [(8, bv al), (9, SV.p (PV.str w)), (10, P10)] [(86, bv v)] (bx 1 w 0 i)) := by
  unfold E8; rw [← symA_std]
  cases al with
  | true =>
    rcases x with _ | rows | ⟨rows, k0, k1, k2⟩
    · exact w9tA_0 stdF (look fl) okS inB (bareF false) L8 t w i k 0 v true []
    · exact w9tB_0 stdF (look fl) okS inB (bareF false) L8 t w i k 0 v true rows
    · exact w9tC_0 stdF (look fl) okS inB (bareF false) L8 t w i k k2 v true rows
  | false =>
    rcases x with _ | rows | ⟨rows, k0, k1, k2⟩
    · exact w9fA_0 stdF (look fl) okS inB (bareF false) L8 t w i k 0 v true []
    · exact w9fB_0 stdF (look fl) okS inB (bareF false) L8 t w i k 0 v true rows
    · exact w9fC_0 stdF (look fl) okS inB (bareF false) L8 t w i k k2 v true rows
theorem g_10t (i k : Nat) (hw : w.length ≤ 6) (hd : w.all isDc = true) : E8 c8_10 (w8 x t i k [(8, bv true), (9, SV.p (PV.str w)), (10, P10)] [(86, bv v)] (bx 1 w 0 i)) = some (.normal, w8 x t i k [(9, SV.p (PV.str w)), (10, P10), (11, iv w.length)] [(144, bv false)] (bx 2 w (numV w) i)) := by
  have hl := loopj x t w i k hw hd
  unfold E8; rw [← symA_std]
  rcases x with _ | rows | ⟨rows, k0, k1, k2⟩
  · exact w10tA_0 stdF (look fl) okS inB (bareF false) L8 t w i k 0 v true [] (numV w) w.length hl
  · exact w10tB_0 stdF (look fl) okS inB (bareF false) L8 t w i k 0 v true rows (numV w) w.length hl
  · exact w10tC_0 stdF (look fl) okS inB (bareF false) L8 t w i k k2 v true rows (numV w) w.length hl
theorem g_10f : E8 c8_10 (w8 x t i k [(8, bv false), (9, SV.p (PV.str w)), (10, P10)] [(86, bv v)] (bx 1 w 0 i)) = some (.normal, w8 x t i k [(8, bv false), (9, SV.p (PV.str w)), (10, P10)] [(86, bv v), (139, bv false)] (bx 1 w 0 i)) := by
  unfold E8; rw [← symA_std]
  rcases x with _ | rows | ⟨rows, k0, k1, k2⟩
  · exact w10fA_0 stdF (look fl) okS inB (bareF false) L8 t w i k 0 v true [] 0 0
  · exact w10fB_0 stdF (look fl) okS inB (bareF false) L8 t w i k 0 v true rows 0 0
  · exact w10fC_0 stdF (look fl) okS inB (bareF false) L8 t w i k k2 v true rows 0 0
theorem fit1 {rows : List (List PV)} (hr : rows.length ≤ 10000) (e : List PV) : stdF .afit (stdF .rlen rows) (stdF .rpart [e] 0 (stdF .rlen [e])) 40 = true := decide_eq_true (by
  show (rows.length + 1) * 40 ≤ 70368744177664 ∧ rows.length + 1 ≤ 70368744177664; omega)
theorem rp_all' (rows : List (List PV)) : stdF .rpart rows 0 (stdF .rlen rows) = rows := by
  show (rows.drop 0).take rows.length = rows
  rw [List.drop_zero, List.take_length]
theorem le_all (rows : List (List PV)) : stdF .le (stdF .add 0 (stdF .rlen rows)) (stdF .rlen rows) = true := std_leT (by show 0 + rows.length ≤ rows.length; omega)
theorem g_11t (n j : Int) (hr : x.rows.length ≤ 10000) : E8 c8_11 (w8 x t i k [(9, SV.p (PV.str w)), (10, P10), (11, iv j)] [(144, bv false)] (bx 2 w n i)) = some (.normal, w8 (x.push [.int .i64 2, .str w, .int .i64 n, .int .i64 i]) t i k [] [] []) := by
  unfold E8; rw [← symA_std]
  rcases x with _ | rows | ⟨rows, k0, k1, k2⟩
  · exact w11tA_0 stdF (look fl) okS inB (bareF false) L8 t w i k 0 true true [] n j rfl rfl rfl rfl
  · have := w11tB_0 stdF (look fl) okS inB (bareF false) L8 t w i k 0 true true rows n j rfl rfl (le_all rows) (fit1 hr _)
    rw [rp_all' rows] at this; exact this
  · have := w11tC_0 stdF (look fl) okS inB (bareF false) L8 t w i k k2 true true rows n j rfl rfl (le_all rows) (fit1 hr _)
    rw [rp_all' rows] at this; exact this
theorem g_11f (hr : x.rows.length ≤ 10000) : E8 c8_11 (w8 x t i k [(8, bv false), (9, SV.p (PV.str w)), (10, P10)] [(86, bv v), (139, bv false)] (bx 1 w 0 i)) = some (.normal, w8 (x.push [.int .i64 1, .str w, .int .i64 0, .int .i64 i]) t i k [] [] []) := by
  unfold E8; rw [← symA_std]
  rcases x with _ | rows | ⟨rows, k0, k1, k2⟩
  · exact w11fA_0 stdF (look fl) okS inB (bareF false) L8 t w i k 0 v true [] 0 0 rfl rfl rfl rfl
  · have := w11fB_0 stdF (look fl) okS inB (bareF false) L8 t w i k 0 v true rows 0 0 rfl rfl (le_all rows) (fit1 hr _)
    rw [rp_all' rows] at this; exact this
  · have := w11fC_0 stdF (look fl) okS inB (bareF false) L8 t w i k k2 v true rows 0 0 rfl rfl (le_all rows) (fit1 hr _)
    rw [rp_all' rows] at this; exact this
theorem g_12 (e : List PV) : E8 c8_12 (w8 (x.push e) t i k [] [] []) = some (.normal, s8 (.C (x.rows ++ [e]) k i k) t k [] []) := by
  unfold E8; rw [← symA_std]
  rcases x with _ | rows | ⟨rows, k0, k1, k2⟩
  · exact w12B_0 stdF (look fl) okS inB (bareF false) L8 t [] i k 0 true true [e]
  · exact w12B_0 stdF (look fl) okS inB (bareF false) L8 t [] i k 0 true true (rows ++ [e])
  · exact w12C_0 stdF (look fl) okS inB (bareF false) L8 t [] i k k2 true true (rows ++ [e])
end
/-! ### a word -/
def W3 : VCode := .seq c8_3 (.seq c8_4 (.seq c8_5 (.seq c8_6 (.seq c8_7 (.seq c8_8 (.seq c8_9 (.seq c8_10 (.seq c8_11 c8_12))))))))
theorem isD_not_L {c : UInt8} (h : isL (Int.ofNat c.toNat) = true) : isDc c = false := not_LD h
theorem word8 (x : Sh) (t : List UInt8) (i : Nat) (ht : t.length ≤ 10000) (hr : x.rows.length ≤ 10000) {c : UInt8} (hc : t[i]? = some c) (hs : isSg c = false) (hh : hpF (t.drop i) = false) :
    (oE (t.drop i) = 0 ∧ (oX (t.drop i)).length = runN (t.drop i) ∧ E8 W3 (s8 x t i [] [(50, bv false)]) = some (.normal, s8 (.C (x.rows ++ [rowT t i]) ((i + runN (t.drop i) : Nat) : Int) i ((i + runN (t.drop i) : Nat) : Int)) t ((i + runN (t.drop i) : Nat) : Int) [] [])) ∨
    ((oE (t.drop i) = 20 ∨ oE (t.drop i) = 6) ∧ E8 W3 (s8 x t i [] [(50, bv false)]) = some (.ret, r8 x i ((i + runN (t.drop i) : Nat) : Int) (oE (t.drop i)))) := by
  have hi := (List.getElem?_eq_some_iff.mp hc).1
  have hx := (List.getElem?_eq_some_iff.mp hc).2
  have hd : t.drop i = c :: t.drop (i + 1) := by rw [List.drop_eq_getElem_cons hi, hx]
  have hle : runN (t.drop i) ≤ (t.drop i).length := tw_le _ _
  rw [List.length_drop] at hle
  have hm : i + runN (t.drop i) ≤ t.length := by omega
  unfold W3
  rw [E8_seq (g_3 x t i), E8_seq (g_4 x t i), E8_seq (g_5 x t i ht (by omega)), E8_seq (g_6 x t i _ hm)]
  have hone := oneR_cons c (t.drop (i + 1))
  rw [← hd] at hone
  have hlen : ((t.drop i).take (runN (t.drop i))).length = runN (t.drop i) := by rw [List.length_take, List.length_drop]; omega
  by_cases hn : 0 < runN (t.drop i)
  · rw [if_pos hn] at hone
    have hw : ∃ r, (t.drop i).take (runN (t.drop i)) = c :: r := by
      obtain ⟨m, e⟩ : ∃ m, runN (t.drop i) = m + 1 := ⟨runN (t.drop i) - 1, by omega⟩
      rw [e]
      conv => congr; ext; lhs; rw [hd]
      exact ⟨_, rfl⟩
    have hrow : ∀ (k : Int) (w : List UInt8) (n : Int), oneR (t.drop i) = (k, w, n, 0) → rowT t i = [.int .i64 k, .str w, .int .i64 n, .int .i64 (i : Int)] := by
      intro k w n e; unfold rowT oK oX oM; rw [e]
    have hal : alK (t.drop i) (runN (t.drop i)) = allDc ((t.drop i).take (runN (t.drop i))) := rfl
    have hv : v86 (t.drop i) (runN (t.drop i)) = bv (allDc ((t.drop i).take (runN (t.drop i)))) := by
      obtain ⟨m, e⟩ : ∃ m, runN (t.drop i) = m + 1 := ⟨runN (t.drop i) - 1, by omega⟩
      rw [e]; rfl
    have hWc : isW c = true := by
      obtain ⟨d, h1, h2⟩ := tw_in isW (t.drop i) 0 hn
      rw [hd] at h1
      simp only [List.getElem?_cons_zero, Option.some.injEq] at h1
      rw [h1]; exact h2
    rw [hal, hv]
    obtain ⟨r, hw⟩ := hw
    rw [hw] at hone hlen ⊢
    generalize runN (t.drop i) = m at *
    cases hA : allDc (c :: r) with
    | true =>
      rw [if_pos hA] at hone
      by_cases h6 : 6 < (c :: r).length
      · right
        have e6 : oE (t.drop i) = 6 := by unfold oE; rw [hone]; unfold numR; rw [if_pos h6]
        refine ⟨.inr e6, ?_⟩
        rw [E8_seq (g_7t x t i _ true c r (by omega)), E8_out (g_8te x t (c :: r) i _ true h6) (by simp), e6]
      · by_cases hz : 1 < (c :: r).length ∧ (c :: r).length < 7 ∧ c = 48
        · right
          have e20 : oE (t.drop i) = 20 := by
            unfold oE; rw [hone]; unfold numR; rw [if_neg h6]
            match r, hz with
            | d :: r, hz => simp only [hz.2.2, if_true]
          refine ⟨.inl e20, ?_⟩
          rw [E8_out (g_7te x t i _ true c r hz.1 hz.2.1 hz.2.2) (by simp), e20]
        · left
          have e0 : oneR (t.drop i) = (2, c :: r, numV (c :: r), 0) := by
            rw [hone]; unfold numR; rw [if_neg h6]
            match r, hz, h6 with
            | [], hz, h6 => rfl
            | d :: r, hz, h6 =>
              have : c ≠ 48 := fun e => hz ⟨by simp, by omega, e⟩
              simp only [this, if_false]
          refine ⟨by unfold oE; rw [e0], by unfold oX; rw [e0]; exact hlen, ?_⟩
          rw [E8_seq (g_7t x t i _ true c r hz), E8_seq (g_8t x t (c :: r) i _ true h6), E8_seq (g_9 x t (c :: r) i _ true true),
            E8_seq (g_10t x t (c :: r) true i _ (by omega) hA), E8_seq (g_11t x t (c :: r) i _ _ _ hr), g_12 x t i, hrow _ _ _ e0]
    | false =>
      rw [if_neg (by rw [hA]; simp)] at hone
      cases hL : isL (Int.ofNat c.toNat) with
      | false =>
        right
        rw [if_pos hL] at hone
        have e20 : oE (t.drop i) = 20 := by unfold oE; rw [hone]
        have hD : isDc c = true := by
          exact isW_D hWc hL
        refine ⟨.inl e20, ?_⟩
        rw [E8_out (g_7fe x t i _ false c r hD) (by simp), e20]
      | true =>
        rw [if_neg (by rw [hL]; simp)] at hone
        have hD := isD_not_L hL
        by_cases h16 : 16 < m
        · right
          rw [if_pos h16] at hone
          have e6 : oE (t.drop i) = 6 := by unfold oE; rw [hone]
          refine ⟨.inr e6, ?_⟩
          rw [E8_seq (g_7f x t i _ false c r hD), E8_out (g_8fe x t (c :: r) i _ false (by omega)) (by simp), e6]
        · left
          rw [if_neg h16] at hone
          refine ⟨by unfold oE; rw [hone], by unfold oX; rw [hone]; exact hlen, ?_⟩
          rw [E8_seq (g_7f x t i _ false c r hD), E8_seq (g_8f x t (c :: r) i _ false (by omega)), E8_seq (g_9 x t (c :: r) i _ false false),
            E8_seq (g_10f x t (c :: r) i _ false), E8_seq (g_11f x t (c :: r) i _ false hr), g_12 x t i, hrow _ _ _ hone]
  · rw [if_neg hn, if_neg (by rw [hh]; simp), if_neg (by rw [hs]; simp)] at hone
    right
    have e20 : oE (t.drop i) = 20 := by unfold oE; rw [hone]
    have h0 : runN (t.drop i) = 0 := by omega
    refine ⟨.inl e20, ?_⟩
    rw [e20, h0]
    exact E8_out (g_7D x t i _ true) (by simp)
end Go.Proofs.Ytkkainkhjimcmaa.L
