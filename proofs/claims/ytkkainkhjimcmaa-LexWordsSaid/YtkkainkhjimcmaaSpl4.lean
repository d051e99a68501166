import Derived.Test.YtkkainkhjimcmaaSpl3
/-
LexSplits: the reference's Split, part by part.
-/
namespace Go.Proofs.Ytkkainkhjimcmaa.L
open Go Go.VM
set_option linter.unusedVariables false
set_option linter.unusedSectionVars false
set_option maxRecDepth 100000
set_option maxHeartbeats 4000000
abbrev T8 : Tab := T (ps8 okS inB (bareF false))
noncomputable abbrev L8 : VCode → St → Option (Ex × St) := allL T8 ⟨0, 0⟩
noncomputable def E8 (v : VCode) (σ : St) : Option (Ex × St) := @S.evS stdA T8 (fun _ _ _ _ _ => none) L8 ⟨0, 0⟩ v σ
theorem E8_seq {x y : VCode} {σ σ' : St} (h : E8 x σ = some (.normal, σ')) : E8 (.seq x y) σ = E8 y σ' := by
  have e : E8 (.seq x y) σ = (match E8 x σ with | some (.normal, σ') => E8 y σ' | r => r) := rfl
  rw [e, h]
theorem E8_out {x y : VCode} {σ σ' : St} {ex : Ex} (h : E8 x σ = some (ex, σ')) (hn : ex ≠ .normal) : E8 (.seq x y) σ = some (ex, σ') := by
  have e : E8 (.seq x y) σ = (match E8 x σ with | some (.normal, σ') => E8 y σ' | r => r) := rfl
  rw [e, h]
  cases ex with
  | normal => exact absurd rfl hn
  | exit j => rfl
  | ret => rfl
theorem E8_blk {j : Nat} {b : VCode} {σ σ' : St} (h : E8 b σ = some (.exit j, σ')) : E8 (.block j b) σ = some (.normal, σ') := by
  have e : E8 (.block j b) σ = (match E8 b σ with | some (.exit k, σ') => some (if k = j then .normal else .exit k, σ') | r => r) := rfl
  rw [e, h]
  show some (if j = j then Ex.normal else Ex.exit j, σ') = _
  rw [if_pos rfl]
theorem E8_blkN {j : Nat} {b : VCode} {σ σ' : St} (h : E8 b σ = some (.normal, σ')) : E8 (.block j b) σ = some (.normal, σ') := by
  have e : E8 (.block j b) σ = (match E8 b σ with | some (.exit k, σ') => some (if k = j then .normal else .exit k, σ') | r => r) := rfl
  rw [e, h]
theorem E8_blkR {j : Nat} {b : VCode} {σ σ' : St} (h : E8 b σ = some (.ret, σ')) : E8 (.block j b) σ = some (.ret, σ') := by
  have e : E8 (.block j b) σ = (match E8 b σ with | some (.exit k, σ') => some (if k = j then .normal else .exit k, σ') | r => r) := rfl
  rw [e, h]
/-! ### letters -/
theorem in_blank (c : UInt8) : inB (Int.ofNat c.toBitVec.toFin) [32, 9, 10, 13] = isB c := (by decide +kernel : ∀ n : Fin (2 ^ 8), inB (Int.ofNat n) [32, 9, 10, 13] = isB ⟨⟨n⟩⟩) c.toBitVec.toFin
theorem in_sign (c : UInt8) : inB (Int.ofNat c.toBitVec.toFin) [61, 44, 59, 38, 33, 58, 45] = isSg c := (by decide +kernel : ∀ n : Fin (2 ^ 8), inB (Int.ofNat n) [61, 44, 59, 38, 33, 58, 45] = isSg ⟨⟨n⟩⟩) c.toBitVec.toFin
theorem in_let (c : UInt8) : inB (Int.ofNat c.toBitVec.toFin) [97, 98, 99, 100, 101, 102, 103, 104, 105, 106, 107, 108, 109, 110, 111, 112, 113, 114, 115, 116, 117, 118, 119, 120, 121, 122] = isL (Int.ofNat c.toNat) := (by decide +kernel : ∀ n : Fin (2 ^ 8), inB (Int.ofNat n) [97, 98, 99, 100, 101, 102, 103, 104, 105, 106, 107, 108, 109, 110, 111, 112, 113, 114, 115, 116, 117, 118, 119, 120, 121, 122] = isL (Int.ofNat n)) c.toBitVec.toFin
theorem in_dig (c : UInt8) : inB (Int.ofNat c.toBitVec.toFin) [48, 49, 50, 51, 52, 53, 54, 55, 56, 57] = isDc c := (by decide +kernel : ∀ n : Fin (2 ^ 8), inB (Int.ofNat n) [48, 49, 50, 51, 52, 53, 54, 55, 56, 57] = isDc ⟨⟨n⟩⟩) c.toBitVec.toFin
theorem ok_blank : okS [32, 9, 10, 13] = true := by decide
theorem ok_sign : okS [61, 44, 59, 38, 33, 58, 45] = true := by decide
theorem ok_let : okS [97, 98, 99, 100, 101, 102, 103, 104, 105, 106, 107, 108, 109, 110, 111, 112, 113, 114, 115, 116, 117, 118, 119, 120, 121, 122] = true := by decide
theorem ok_dig : okS [48, 49, 50, 51, 52, 53, 54, 55, 56, 57] = true := by decide
/-! ### states -/
abbrev iv (n : Int) : SV := SV.p (PV.int IntKind.i64 n)
abbrev bv (b : Bool) : SV := SV.p (PV.bool b)
inductive Sh where
  | A
  | B (rows : List (List PV))
  | C (rows : List (List PV)) (k0 k1 k2 : Int)
def Sh.rows : Sh → List (List PV)
  | .A => []
  | .B r => r
  | .C r _ _ _ => r
def Sh.v5 : Sh → SV
  | .A => SV.p PV.nils
  | .B r => SV.own 4 r
  | .C r _ _ _ => SV.own 4 r
def Sh.v7 : Sh → SV
  | .C _ k0 _ _ => iv k0
  | _ => SV.undef
def Sh.v63 : Sh → SV
  | .C _ _ k1 _ => iv k1
  | _ => SV.undef
def Sh.v161 : Sh → SV
  | .C _ _ _ k2 => iv k2
  | _ => SV.undef
def Sh.push (r : List PV) : Sh → Sh
  | .A => .B [r]
  | .B rows => .B (rows ++ [r])
  | .C rows k0 k1 k2 => .C (rows ++ [r]) k0 k1 k2
theorem Sh.push_rows (r : List PV) : ∀ x : Sh, (x.push r).rows = x.rows ++ [r]
  | .A => rfl
  | .B _ => rfl
  | .C _ _ _ _ => rfl
def s8 (x : Sh) (t : List UInt8) (i : Int) (p20 p50 : List (Nat × SV)) : St :=
  { env := [(0, SV.p (PV.str t)), (5, x.v5), (6, iv i), (7, x.v7), (16, SV.p (PV.str t))] ++ p20 ++ [(44, SV.undef)] ++ p50 ++ [(60, SV.undef), (63, x.v63), (160, SV.undef), (161, x.v161)], fr := [(10, [])], hp := [], out := [] }
def w8 (x : Sh) (t : List UInt8) (i k : Int) (p8 p79 : List (Nat × SV)) (box : List SV) : St :=
  { env := [(0, SV.p (PV.str t)), (5, x.v5), (6, iv i), (7, iv k)] ++ p8 ++ [(16, SV.p (PV.str t)), (44, SV.undef), (60, SV.undef), (63, iv i)] ++ p79 ++ [(160, SV.undef), (161, x.v161)], fr := [(10, box)], hp := [], out := [] }
def p123 (i e : Int) : List (Nat × SV) := if e = 20 then [(123, iv i), (135, SV.undef)] else [(123, SV.undef), (135, iv i)]
def r8 (x : Sh) (i k e : Int) : St :=
  { env := [(2, SV.p PV.nils), (3, iv i), (4, iv e), (5, x.v5), (6, iv i), (7, iv k), (44, SV.undef), (60, SV.undef), (63, iv i)] ++ p123 i e ++ [(160, SV.undef), (161, x.v161), (162, SV.undef)], fr := [(10, [])], hp := [], out := [] }
/-! ### the round's parts -/
section
variable (x : Sh) (t : List UInt8) (i : Nat) (ht : t.length ≤ 10000)
include ht
theorem rp_all (rows : List (List PV)) : stdF .rpart rows 0 (stdF .rlen rows) = rows := by
  show (rows.drop 0).take rows.length = rows
  rw [List.drop_zero, List.take_length]
theorem g_h (h : i < t.length) : E8 c8h (s8 x t i [] []) = some (.normal, s8 x t i [(20, bv true)] []) := by
  have h0 : stdF .cmp .lss (i : Int) (Int.ofNat (stdF .slen t)) = true := std_lssT (by show (i : Int) < (t.length : Int); omega)
  unfold E8; rw [← symA_std]
  rcases x with _ | rows | ⟨rows, k0, k1, k2⟩
  · exact h8A_0 stdF (look fl) okS inB (bareF false) L8 t i 0 0 0 [] h0
  · exact h8B_0 stdF (look fl) okS inB (bareF false) L8 t i 0 0 0 rows h0
  · exact h8C_0 stdF (look fl) okS inB (bareF false) L8 t i k0 k1 k2 rows h0
theorem g_hF (h : ¬ i < t.length) : E8 c8h (s8 x t i [] []) = some (.exit 0, s8 x t i [(20, bv false)] []) := by
  have h0 : stdF .cmp .lss (i : Int) (Int.ofNat (stdF .slen t)) = false := std_lssF (by show ¬ (i : Int) < (t.length : Int); omega)
  unfold E8; rw [← symA_std]
  rcases x with _ | rows | ⟨rows, k0, k1, k2⟩
  · exact h8A_1 stdF (look fl) okS inB (bareF false) L8 t i 0 0 0 [] h0
  · exact h8B_1 stdF (look fl) okS inB (bareF false) L8 t i 0 0 0 rows h0
  · exact h8C_1 stdF (look fl) okS inB (bareF false) L8 t i k0 k1 k2 rows h0
variable {c : UInt8} (hc : t[i]? = some c)
include hc
theorem g_0T (hb : isB c = true) : E8 c8_0 (s8 x t i [(20, bv true)] []) = some (.exit 1, s8 x t ((i + 1 : Nat) : Int) [] []) := by
  have hi := (List.getElem?_eq_some_iff.mp hc).1
  have ha : stdF .ar .add .i64 (i : Int) 1 = ((i + 1 : Nat) : Int) := by rw [std_add (by omega) (by omega)]; rfl
  have h0 : stdF .cmp .leq 0 (i : Int) = true := std_leqT (by omega)
  unfold E8; rw [← symA_std, ← ha]
  rcases x with _ | rows | ⟨rows, k0, k1, k2⟩
  · exact w0A_0 stdF (look fl) okS inB (bareF false) L8 t i 0 0 0 [] c h0 hc ok_blank (by rw [in_blank]; exact hb)
  · exact w0B_0 stdF (look fl) okS inB (bareF false) L8 t i 0 0 0 rows c h0 hc ok_blank (by rw [in_blank]; exact hb)
  · exact w0C_0 stdF (look fl) okS inB (bareF false) L8 t i k0 k1 k2 rows c h0 hc ok_blank (by rw [in_blank]; exact hb)
theorem g_0F (hb : isB c = false) : E8 c8_0 (s8 x t i [(20, bv true)] []) = some (.normal, s8 x t i [(24, bv false)] []) := by
  have h0 : stdF .cmp .leq 0 (i : Int) = true := std_leqT (by omega)
  unfold E8; rw [← symA_std]
  rcases x with _ | rows | ⟨rows, k0, k1, k2⟩
  · exact w0A_1 stdF (look fl) okS inB (bareF false) L8 t i 0 0 0 [] c h0 hc ok_blank (by rw [in_blank]; exact hb)
  · exact w0B_1 stdF (look fl) okS inB (bareF false) L8 t i 0 0 0 rows c h0 hc ok_blank (by rw [in_blank]; exact hb)
  · exact w0C_1 stdF (look fl) okS inB (bareF false) L8 t i k0 k1 k2 rows c h0 hc ok_blank (by rw [in_blank]; exact hb)
theorem cut_drop (a b : Nat) : stdF .scut t (stdF .toN (a : Int)) (stdF .toN ((a + b : Nat) : Int)) = (t.drop a).take b := by
  show (t.take (a + b)).drop a = _
  rw [List.drop_take, Nat.add_sub_cancel_left]
theorem g_1T (hr : x.rows.length ≤ 10000) (h : hpF (t.drop i) = true) : E8 c8_1 (s8 x t i [(24, bv false)] []) = some (.exit 1, s8 (x.push [.int .i64 3, .str [45, 62], .int .i64 0, .int .i64 (i : Int)]) t ((i + 2 : Nat) : Int) [] []) := by
  have hh : (t.drop i).take 2 = [45, 62] := beq_iff_eq.mp h
  have hl : i + 2 ≤ t.length := by
    have := congrArg List.length hh
    rw [List.length_take, List.length_drop] at this
    simp only [List.length_cons, List.length_nil] at this
    omega
  have ha1 : stdF .ar .add .i64 (i : Int) 1 = ((i + 1 : Nat) : Int) := by rw [std_add (by omega) (by omega)]; rfl
  have ha : stdF .ar .add .i64 (i : Int) 2 = ((i + 2 : Nat) : Int) := by rw [std_add (by omega) (by omega)]; rfl
  have h0 : stdF .cmp .lss (stdF .ar .add .i64 (i : Int) 1) (Int.ofNat (stdF .slen t)) = true := by rw [ha1]; exact std_lssT (by show ((i + 1 : Nat) : Int) < (t.length : Int); omega)
  have h1 : stdF .cmp .leq 0 (stdF .ar .add .i64 (i : Int) 2) = true := by rw [ha]; exact std_leqT (by omega)
  have h2 : stdF .cmp .leq 0 (i : Int) = true := std_leqT (by omega)
  have h3 : stdF .le (stdF .toN (i : Int)) (stdF .toN (stdF .ar .add .i64 (i : Int) 2)) = true := by rw [ha]; exact std_leT (by show i ≤ i + 2; omega)
  have h4 : stdF .le (stdF .toN (stdF .ar .add .i64 (i : Int) 2)) (stdF .slen t) = true := by rw [ha]; exact std_leT (by show i + 2 ≤ t.length; omega)
  have h5 : stdF .scmp .eql (stdF .scut t (stdF .toN (i : Int)) (stdF .toN (stdF .ar .add .i64 (i : Int) 2))) [45, 62] = true := by rw [ha, cut_drop t i ht hc, hh]; rfl
  unfold E8; rw [← symA_std]
  rcases x with _ | rows | ⟨rows, k0, k1, k2⟩
  · have := w1A_2 stdF (look fl) okS inB (bareF false) L8 t i 0 0 0 [] h0 h1 h2 h3 h4 h5 rfl rfl rfl rfl
    rw [ha] at this; exact this
  · have := w1B_2 stdF (look fl) okS inB (bareF false) L8 t i 0 0 0 rows h0 h1 h2 h3 h4 h5 rfl rfl (std_leT (by show 0 + rows.length ≤ rows.length; omega)) (decide_eq_true (by
      have : rows.length ≤ 10000 := hr
      show (rows.length + 1) * 40 ≤ 70368744177664 ∧ rows.length + 1 ≤ 70368744177664; omega))
    rw [ha, rp_all t ht rows] at this; exact this
  · have := w1C_2 stdF (look fl) okS inB (bareF false) L8 t i k0 k1 k2 rows h0 h1 h2 h3 h4 h5 rfl rfl (std_leT (by show 0 + rows.length ≤ rows.length; omega)) (decide_eq_true (by
      have : rows.length ≤ 10000 := hr
      show (rows.length + 1) * 40 ≤ 70368744177664 ∧ rows.length + 1 ≤ 70368744177664; omega))
    rw [ha, rp_all t ht rows] at this; exact this
theorem g_1F (h : hpF (t.drop i) = false) : E8 c8_1 (s8 x t i [(24, bv false)] []) = some (.normal, s8 x t i [(39, bv false)] []) := by
  have hi := (List.getElem?_eq_some_iff.mp hc).1
  have ha1 : stdF .ar .add .i64 (i : Int) 1 = ((i + 1 : Nat) : Int) := by rw [std_add (by omega) (by omega)]; rfl
  have ha : stdF .ar .add .i64 (i : Int) 2 = ((i + 2 : Nat) : Int) := by rw [std_add (by omega) (by omega)]; rfl
  unfold E8; rw [← symA_std]
  by_cases hl : i + 1 < t.length
  · have h0 : stdF .cmp .lss (stdF .ar .add .i64 (i : Int) 1) (Int.ofNat (stdF .slen t)) = true := by rw [ha1]; exact std_lssT (by show ((i + 1 : Nat) : Int) < (t.length : Int); omega)
    have h1 : stdF .cmp .leq 0 (stdF .ar .add .i64 (i : Int) 2) = true := by rw [ha]; exact std_leqT (by omega)
    have h2 : stdF .cmp .leq 0 (i : Int) = true := std_leqT (by omega)
    have h3 : stdF .le (stdF .toN (i : Int)) (stdF .toN (stdF .ar .add .i64 (i : Int) 2)) = true := by rw [ha]; exact std_leT (by show i ≤ i + 2; omega)
    have h4 : stdF .le (stdF .toN (stdF .ar .add .i64 (i : Int) 2)) (stdF .slen t) = true := by rw [ha]; exact std_leT (by show i + 2 ≤ t.length; omega)
    have h5 : stdF .scmp .eql (stdF .scut t (stdF .toN (i : Int)) (stdF .toN (stdF .ar .add .i64 (i : Int) 2))) [45, 62] = false := by rw [ha, cut_drop t i ht hc]; exact h
    rcases x with _ | rows | ⟨rows, k0, k1, k2⟩
    · exact w1A_1 stdF (look fl) okS inB (bareF false) L8 t i 0 0 0 [] h0 h1 h2 h3 h4 h5
    · exact w1B_1 stdF (look fl) okS inB (bareF false) L8 t i 0 0 0 rows h0 h1 h2 h3 h4 h5
    · exact w1C_1 stdF (look fl) okS inB (bareF false) L8 t i k0 k1 k2 rows h0 h1 h2 h3 h4 h5
  · have h0 : stdF .cmp .lss (stdF .ar .add .i64 (i : Int) 1) (Int.ofNat (stdF .slen t)) = false := by rw [ha1]; exact std_lssF (by show ¬ ((i + 1 : Nat) : Int) < (t.length : Int); omega)
    rcases x with _ | rows | ⟨rows, k0, k1, k2⟩
    · exact w1A_0 stdF (look fl) okS inB (bareF false) L8 t i 0 0 0 [] h0
    · exact w1B_0 stdF (look fl) okS inB (bareF false) L8 t i 0 0 0 rows h0
    · exact w1C_0 stdF (look fl) okS inB (bareF false) L8 t i k0 k1 k2 rows h0
theorem g_2T (hr : x.rows.length ≤ 10000) (h : isSg c = true) : E8 c8_2 (s8 x t i [(39, bv false)] []) = some (.exit 1, s8 (x.push [.int .i64 3, .str [c], .int .i64 0, .int .i64 (i : Int)]) t ((i + 1 : Nat) : Int) [] []) := by
  have hi := (List.getElem?_eq_some_iff.mp hc).1
  have hx := (List.getElem?_eq_some_iff.mp hc).2
  have ha : stdF .ar .add .i64 (i : Int) 1 = ((i + 1 : Nat) : Int) := by rw [std_add (by omega) (by omega)]; rfl
  have hcut : stdF .scut t (stdF .toN (i : Int)) (stdF .toN ((i + 1 : Nat) : Int)) = [c] := by
    rw [cut_drop t i ht hc, List.drop_eq_getElem_cons hi, hx]; rfl
  have h0 : stdF .cmp .leq 0 (i : Int) = true := std_leqT (by omega)
  have h4 : stdF .cmp .leq 0 (stdF .ar .add .i64 (i : Int) 1) = true := by rw [ha]; exact std_leqT (by omega)
  have h6 : stdF .le (stdF .toN (i : Int)) (stdF .toN (stdF .ar .add .i64 (i : Int) 1)) = true := by rw [ha]; exact std_leT (by show i ≤ i + 1; omega)
  have h7 : stdF .le (stdF .toN (stdF .ar .add .i64 (i : Int) 1)) (stdF .slen t) = true := by rw [ha]; exact std_leT (by show i + 1 ≤ t.length; omega)
  have h3 : inB (Int.ofNat c.toBitVec.toFin) [61, 44, 59, 38, 33, 58, 45] = true := by rw [in_sign]; exact h
  unfold E8; rw [← symA_std]
  rcases x with _ | rows | ⟨rows, k0, k1, k2⟩
  · have := w2A_1 stdF (look fl) okS inB (bareF false) L8 t i 0 0 0 [] c h0 hc ok_sign h3 h4 h0 h6 h7 rfl rfl rfl rfl
    rw [ha, hcut] at this; exact this
  · have := w2B_1 stdF (look fl) okS inB (bareF false) L8 t i 0 0 0 rows c h0 hc ok_sign h3 h4 h0 h6 h7 rfl rfl (std_leT (by show 0 + rows.length ≤ rows.length; omega)) (decide_eq_true (by
      have : rows.length ≤ 10000 := hr
      show (rows.length + 1) * 40 ≤ 70368744177664 ∧ rows.length + 1 ≤ 70368744177664; omega))
    rw [ha, hcut, rp_all t ht rows] at this; exact this
  · have := w2C_1 stdF (look fl) okS inB (bareF false) L8 t i k0 k1 k2 rows c h0 hc ok_sign h3 h4 h0 h6 h7 rfl rfl (std_leT (by show 0 + rows.length ≤ rows.length; omega)) (decide_eq_true (by
      have : rows.length ≤ 10000 := hr
      show (rows.length + 1) * 40 ≤ 70368744177664 ∧ rows.length + 1 ≤ 70368744177664; omega))
    rw [ha, hcut, rp_all t ht rows] at this; exact this
theorem g_2F (h : isSg c = false) : E8 c8_2 (s8 x t i [(39, bv false)] []) = some (.normal, s8 x t i [] [(50, bv false)]) := by
  have h0 : stdF .cmp .leq 0 (i : Int) = true := std_leqT (by omega)
  have h3 : inB (Int.ofNat c.toBitVec.toFin) [61, 44, 59, 38, 33, 58, 45] = false := by rw [in_sign]; exact h
  unfold E8; rw [← symA_std]
  rcases x with _ | rows | ⟨rows, k0, k1, k2⟩
  · exact w2A_0 stdF (look fl) okS inB (bareF false) L8 t i 0 0 0 [] c h0 hc ok_sign h3
  · exact w2B_0 stdF (look fl) okS inB (bareF false) L8 t i 0 0 0 rows c h0 hc ok_sign h3
  · exact w2C_0 stdF (look fl) okS inB (bareF false) L8 t i k0 k1 k2 rows c h0 hc ok_sign h3
end
end Go.Proofs.Ytkkainkhjimcmaa.L
