import Derived.Test.YtkkainkhjimcmaaSpl4
/-
LexSplits: the reference's Split, a word.
-/
namespace Go.Proofs.Ytkkainkhjimcmaa.L
open Go Go.VM
set_option linter.unusedVariables false
set_option linter.unusedSectionVars false
set_option maxRecDepth 100000
set_option maxHeartbeats 4000000
/-- are the first letters of the run digits? -/
def alK (u : List UInt8) (j : Nat) : Bool := allDc (u.take j)
def v86 (u : List UInt8) (j : Nat) : SV := match j with | 0 => SV.undef | j + 1 => bv (alK u (j + 1))
def k8 (x : Sh) (t : List UInt8) (i j : Nat) : St := w8 x t i ((i + j : Nat) : Int) [(8, bv (alK (t.drop i) j))] [(86, v86 (t.drop i) j)] []
theorem alK_succ {u : List UInt8} {j : Nat} {c : UInt8} (h : u[j]? = some c) : alK u (j + 1) = (alK u j && isDc c) := by
  unfold alK allDc
  rw [List.take_add_one, h, List.all_append]
  show (_ && (isDc c && true)) = _
  rw [Bool.and_true]
theorem isW_D {c : UInt8} (h : isW c = true) (hL : isL (Int.ofNat c.toNat) = false) : isDc c = true := by
  unfold isW at h
  rw [hL, Bool.false_or] at h
  exact h
theorem not_LD {c : UInt8} (hL : isL (Int.ofNat c.toNat) = true) : isDc c = false := by
  unfold isL at hL
  unfold isDc isD
  simp only [Bool.and_eq_true, decide_eq_true_eq] at hL
  rw [Bool.and_eq_false_iff]
  right
  exact decide_eq_false (by omega)
theorem stepk (x : Sh) (t : List UInt8) (i : Nat) (ht : t.length ≤ 10000) (j : Nat) (hj : j < runN (t.drop i)) :
    @S.evS stdA T8 (fun _ _ _ _ _ => none) (fun _ _ => none) ⟨0, 0⟩ b8k (k8 x t i j) = some (.normal, k8 x t i (j + 1)) := by
  obtain ⟨c, hc, hw⟩ := tw_in isW (t.drop i) j hj
  have hle := tw_le isW (t.drop i)
  have hlt : j < (t.drop i).length := (List.getElem?_eq_some_iff.mp hc).1
  rw [List.length_drop] at hlt
  have hk : t[i + j]? = some c := by rw [← List.getElem?_drop]; exact hc
  have hal := alK_succ hc
  have ha : stdF .ar .add .i64 ((i + j : Nat) : Int) 1 = ((i + (j + 1) : Nat) : Int) := by rw [std_add (by omega) (by omega)]; rfl
  have h0 : stdF .cmp .lss ((i + j : Nat) : Int) (Int.ofNat (stdF .slen t)) = true := std_lssT (by show ((i + j : Nat) : Int) < (t.length : Int); omega)
  have h1 : stdF .cmp .leq 0 ((i + j : Nat) : Int) = true := std_leqT (by omega)
  have hd := in_dig c
  rw [← symA_std]
  cases hL : isL (Int.ofNat c.toNat) with
  | true =>
    have hl : inB (Int.ofNat c.toBitVec.toFin) _ = true := (in_let c).trans hL
    rw [not_LD hL] at hal hd
    rw [Bool.and_false] at hal
    have e2 : v86 (t.drop i) (j + 1) = bv false := by show bv (alK _ (j + 1)) = _; rw [hal]
    have eR : k8 x t i (j + 1) = w8 x t i ((i + (j + 1) : Nat) : Int) [(8, bv false)] [(86, bv false)] [] := by unfold k8; rw [e2, hal]
    rw [eR, ← ha]
    cases j with
    | zero =>
      rcases x with _ | rows | ⟨rows, k0, k1, k2⟩
      · have := it8kDA_1 stdF (look fl) okS inB (bareF false) t [] i (i + 0 : Nat) 0 true true [] c h0 h1 hk ok_let hl h1 hk ok_dig
        rw [hd] at this; exact this
      · have := it8kDB_1 stdF (look fl) okS inB (bareF false) t [] i (i + 0 : Nat) 0 true true rows c h0 h1 hk ok_let hl h1 hk ok_dig
        rw [hd] at this; exact this
      · have := it8kDC_1 stdF (look fl) okS inB (bareF false) t [] i (i + 0 : Nat) k2 true true rows c h0 h1 hk ok_let hl h1 hk ok_dig
        rw [hd] at this; exact this
    | succ j =>
      have eL : k8 x t i (j + 1) = w8 x t i ((i + (j + 1) : Nat) : Int) [(8, bv (alK (t.drop i) (j + 1)))] [(86, bv (alK (t.drop i) (j + 1)))] [] := rfl
      rw [eL]
      cases alK (t.drop i) (j + 1) with
      | true =>
        rcases x with _ | rows | ⟨rows, k0, k1, k2⟩
        · have := it8kEtA_1 stdF (look fl) okS inB (bareF false) t [] i (i + (j + 1) : Nat) 0 true true [] c h0 h1 hk ok_let hl h1 hk ok_dig
          rw [hd] at this; exact this
        · have := it8kEtB_1 stdF (look fl) okS inB (bareF false) t [] i (i + (j + 1) : Nat) 0 true true rows c h0 h1 hk ok_let hl h1 hk ok_dig
          rw [hd] at this; exact this
        · have := it8kEtC_1 stdF (look fl) okS inB (bareF false) t [] i (i + (j + 1) : Nat) k2 true true rows c h0 h1 hk ok_let hl h1 hk ok_dig
          rw [hd] at this; exact this
      | false =>
        rcases x with _ | rows | ⟨rows, k0, k1, k2⟩
        · exact it8kEfA_1 stdF (look fl) okS inB (bareF false) t [] i (i + (j + 1) : Nat) 0 false true [] c h0 h1 hk ok_let hl
        · exact it8kEfB_1 stdF (look fl) okS inB (bareF false) t [] i (i + (j + 1) : Nat) 0 false true rows c h0 h1 hk ok_let hl
        · exact it8kEfC_1 stdF (look fl) okS inB (bareF false) t [] i (i + (j + 1) : Nat) k2 false true rows c h0 h1 hk ok_let hl
  | false =>
    have hl : inB (Int.ofNat c.toBitVec.toFin) _ = false := (in_let c).trans hL
    rw [isW_D hw hL] at hal hd
    rw [Bool.and_true] at hal
    have eR : k8 x t i (j + 1) = w8 x t i ((i + (j + 1) : Nat) : Int) [(8, bv (alK (t.drop i) j))] [(86, bv (alK (t.drop i) j))] [] := by unfold k8; rw [show v86 (t.drop i) (j + 1) = bv (alK (t.drop i) j) by show bv (alK _ (j + 1)) = _; rw [hal], hal]
    rw [eR, ← ha]
    cases j with
    | zero =>
      rcases x with _ | rows | ⟨rows, k0, k1, k2⟩
      · exact it8kDA_3 stdF (look fl) okS inB (bareF false) t [] i (i + 0 : Nat) 0 true true [] c h0 h1 hk ok_let hl h1 hk ok_dig hd h1 hk ok_dig
      · exact it8kDB_3 stdF (look fl) okS inB (bareF false) t [] i (i + 0 : Nat) 0 true true rows c h0 h1 hk ok_let hl h1 hk ok_dig hd h1 hk ok_dig
      · exact it8kDC_3 stdF (look fl) okS inB (bareF false) t [] i (i + 0 : Nat) k2 true true rows c h0 h1 hk ok_let hl h1 hk ok_dig hd h1 hk ok_dig
    | succ j =>
      have eL : k8 x t i (j + 1) = w8 x t i ((i + (j + 1) : Nat) : Int) [(8, bv (alK (t.drop i) (j + 1)))] [(86, bv (alK (t.drop i) (j + 1)))] [] := rfl
      rw [eL]
      cases alK (t.drop i) (j + 1) with
      | true =>
        rcases x with _ | rows | ⟨rows, k0, k1, k2⟩
        · exact it8kEtA_3 stdF (look fl) okS inB (bareF false) t [] i (i + (j + 1) : Nat) 0 true true [] c h0 h1 hk ok_let hl h1 hk ok_dig hd h1 hk ok_dig
        · exact it8kEtB_3 stdF (look fl) okS inB (bareF false) t [] i (i + (j + 1) : Nat) 0 true true rows c h0 h1 hk ok_let hl h1 hk ok_dig hd h1 hk ok_dig
        · exact it8kEtC_3 stdF (look fl) okS inB (bareF false) t [] i (i + (j + 1) : Nat) k2 true true rows c h0 h1 hk ok_let hl h1 hk ok_dig hd h1 hk ok_dig
      | false =>
        rcases x with _ | rows | ⟨rows, k0, k1, k2⟩
        · exact it8kEfA_2 stdF (look fl) okS inB (bareF false) t [] i (i + (j + 1) : Nat) 0 false true [] c h0 h1 hk ok_let hl h1 hk ok_dig hd
        · exact it8kEfB_2 stdF (look fl) okS inB (bareF false) t [] i (i + (j + 1) : Nat) 0 false true rows c h0 h1 hk ok_let hl h1 hk ok_dig hd
        · exact it8kEfC_2 stdF (look fl) okS inB (bareF false) t [] i (i + (j + 1) : Nat) k2 false true rows c h0 h1 hk ok_let hl h1 hk ok_dig hd
/-- the state behind the run -/
def e8 (x : Sh) (t : List UInt8) (i j : Nat) : St := w8 x t i ((i + j : Nat) : Int) [(8, bv (alK (t.drop i) j))] [(79, bv false), (86, v86 (t.drop i) j)] []
theorem endk (x : Sh) (t : List UInt8) (i : Nat) (ht : t.length ≤ 10000) (hi : i ≤ t.length) :
    @S.evS stdA T8 (fun _ _ _ _ _ => none) (fun _ _ => none) ⟨0, 0⟩ b8k (k8 x t i (runN (t.drop i))) = some (.exit 2, e8 x t i (runN (t.drop i))) := by
  rw [← symA_std]
  have hout := tw_out isW (t.drop i)
  have hle := tw_le isW (t.drop i)
  change (t.drop i)[runN (t.drop i)]? = none ∨ ∃ c, (t.drop i)[runN (t.drop i)]? = some c ∧ isW c = false at hout
  change runN (t.drop i) ≤ _ at hle
  rw [List.length_drop] at hle
  generalize runN (t.drop i) = j at hout hle
  have eL : ∀ j, k8 x t i (j + 1) = w8 x t i ((i + (j + 1) : Nat) : Int) [(8, bv (alK (t.drop i) (j + 1)))] [(86, bv (alK (t.drop i) (j + 1)))] [] := fun _ => rfl
  have eE : ∀ j, e8 x t i (j + 1) = w8 x t i ((i + (j + 1) : Nat) : Int) [(8, bv (alK (t.drop i) (j + 1)))] [(79, bv false), (86, bv (alK (t.drop i) (j + 1)))] [] := fun _ => rfl
  rcases hout with hn | ⟨c, hc, hw⟩
  · have := List.getElem?_eq_none_iff.mp hn
    rw [List.length_drop] at this
    have h0 : stdF .cmp .lss ((i + j : Nat) : Int) (Int.ofNat (stdF .slen t)) = false := std_lssF (by show ¬ ((i + j : Nat) : Int) < (t.length : Int); omega)
    cases j with
    | zero =>
      rcases x with _ | rows | ⟨rows, k0, k1, k2⟩
      · exact it8kDA_0 stdF (look fl) okS inB (bareF false) t [] i (i + 0 : Nat) 0 true true [] h0
      · exact it8kDB_0 stdF (look fl) okS inB (bareF false) t [] i (i + 0 : Nat) 0 true true rows h0
      · exact it8kDC_0 stdF (look fl) okS inB (bareF false) t [] i (i + 0 : Nat) k2 true true rows h0
    | succ j =>
      rw [eL, eE]
      cases alK (t.drop i) (j + 1) with
      | true =>
        rcases x with _ | rows | ⟨rows, k0, k1, k2⟩
        · exact it8kEtA_0 stdF (look fl) okS inB (bareF false) t [] i (i + (j + 1) : Nat) 0 true true [] h0
        · exact it8kEtB_0 stdF (look fl) okS inB (bareF false) t [] i (i + (j + 1) : Nat) 0 true true rows h0
        · exact it8kEtC_0 stdF (look fl) okS inB (bareF false) t [] i (i + (j + 1) : Nat) k2 true true rows h0
      | false =>
        rcases x with _ | rows | ⟨rows, k0, k1, k2⟩
        · exact it8kEfA_0 stdF (look fl) okS inB (bareF false) t [] i (i + (j + 1) : Nat) 0 false true [] h0
        · exact it8kEfB_0 stdF (look fl) okS inB (bareF false) t [] i (i + (j + 1) : Nat) 0 false true rows h0
        · exact it8kEfC_0 stdF (look fl) okS inB (bareF false) t [] i (i + (j + 1) : Nat) k2 false true rows h0
  · have hlt : j < (t.drop i).length := (List.getElem?_eq_some_iff.mp hc).1
    rw [List.length_drop] at hlt
    have hk : t[i + j]? = some c := by rw [← List.getElem?_drop]; exact hc
    have h0 : stdF .cmp .lss ((i + j : Nat) : Int) (Int.ofNat (stdF .slen t)) = true := std_lssT (by show ((i + j : Nat) : Int) < (t.length : Int); omega)
    have h1 : stdF .cmp .leq 0 ((i + j : Nat) : Int) = true := std_leqT (by omega)
    unfold isW at hw
    rw [Bool.or_eq_false_iff] at hw
    have hl : inB (Int.ofNat c.toBitVec.toFin) _ = false := (in_let c).trans hw.1
    have hd : inB (Int.ofNat c.toBitVec.toFin) _ = false := (in_dig c).trans hw.2
    cases j with
    | zero =>
      rcases x with _ | rows | ⟨rows, k0, k1, k2⟩
      · exact it8kDA_2 stdF (look fl) okS inB (bareF false) t [] i (i + 0 : Nat) 0 true true [] c h0 h1 hk ok_let hl h1 hk ok_dig hd
      · exact it8kDB_2 stdF (look fl) okS inB (bareF false) t [] i (i + 0 : Nat) 0 true true rows c h0 h1 hk ok_let hl h1 hk ok_dig hd
      · exact it8kDC_2 stdF (look fl) okS inB (bareF false) t [] i (i + 0 : Nat) k2 true true rows c h0 h1 hk ok_let hl h1 hk ok_dig hd
    | succ j =>
      rw [eL, eE]
      cases alK (t.drop i) (j + 1) with
      | true =>
        rcases x with _ | rows | ⟨rows, k0, k1, k2⟩
        · exact it8kEtA_2 stdF (look fl) okS inB (bareF false) t [] i (i + (j + 1) : Nat) 0 true true [] c h0 h1 hk ok_let hl h1 hk ok_dig hd
        · exact it8kEtB_2 stdF (look fl) okS inB (bareF false) t [] i (i + (j + 1) : Nat) 0 true true rows c h0 h1 hk ok_let hl h1 hk ok_dig hd
        · exact it8kEtC_2 stdF (look fl) okS inB (bareF false) t [] i (i + (j + 1) : Nat) k2 true true rows c h0 h1 hk ok_let hl h1 hk ok_dig hd
      | false =>
        rcases x with _ | rows | ⟨rows, k0, k1, k2⟩
        · exact it8kEfA_3 stdF (look fl) okS inB (bareF false) t [] i (i + (j + 1) : Nat) 0 false true [] c h0 h1 hk ok_let hl h1 hk ok_dig hd
        · exact it8kEfB_3 stdF (look fl) okS inB (bareF false) t [] i (i + (j + 1) : Nat) 0 false true rows c h0 h1 hk ok_let hl h1 hk ok_dig hd
        · exact it8kEfC_3 stdF (look fl) okS inB (bareF false) t [] i (i + (j + 1) : Nat) k2 false true rows c h0 h1 hk ok_let hl h1 hk ok_dig hd
theorem loopk (x : Sh) (t : List UInt8) (i : Nat) (ht : t.length ≤ 10000) (hi : i ≤ t.length) : L8 b8k (k8 x t i 0) = some (.exit 2, e8 x t i (runN (t.drop i))) :=
  allL_eq (for_run (T := T8) (ba := ⟨0, 0⟩) (c := fun _ _ _ _ _ => none) (Lp := fun _ _ => none) okC_none okL_none (b := b8k) (fun j => k8 x t i j) (Ex.exit 2, e8 x t i (runN (t.drop i))) (by simp) (runN (t.drop i))
    (fun j hj => stepk x t i ht j hj) (endk x t i ht hi) 0 (Nat.zero_le _))
/-! ### a number -/
abbrev P10 : SV := SV.ptr { root := Root.st 0 10, off := 0, row := none }
def bx (k : Int) (w : List UInt8) (n i : Int) : List SV := [iv k, SV.p (PV.str w), iv n, iv i]
def j8 (x : Sh) (t w : List UInt8) (i k j : Nat) : St := w8 x t i k [(9, SV.p (PV.str w)), (10, P10), (11, iv j)] [] (bx 2 w (numV (w.take j)) i)
theorem stepj (x : Sh) (t w : List UInt8) (i k : Nat) (hw : w.length ≤ 6) (hd : w.all isDc = true) (j : Nat) (hj : j < w.length) :
    @S.evS stdA T8 (fun _ _ _ _ _ => none) (fun _ _ => none) ⟨0, 0⟩ b8j (j8 x t w i k j) = some (.normal, j8 x t w i k (j + 1)) := by
  rw [← symA_std]
  have hx : w[j]? = some w[j] := List.getElem?_eq_getElem hj
  have hc : isDc w[j] = true := (List.all_eq_true.mp hd) _ (List.getElem_mem hj)
  generalize w[j] = c at hx hc
  have hc : 48 ≤ Int.ofNat c.1.1.1 ∧ Int.ofNat c.1.1.1 ≤ 57 := isDc_iff hc
  have hb := numV_bound j (w.take j) (by rw [List.length_take]; omega) (by rw [List.all_eq_true] at hd ⊢; intro x hx; exact hd x (List.mem_of_mem_take hx))
  have hp : (10 : Int) ^ j ≤ 10 ^ 6 := by
    have : j ≤ 5 := by omega
    rcases j with _ | _ | _ | _ | _ | _ | j <;> first | decide | omega
  have e2 : stdF .wrap .i64 (Int.ofNat c.1.1.1) = Int.ofNat c.1.1.1 := std_wrap64 (by omega) (by omega)
  have e3 : stdF .ar .mul .i64 (numV (w.take j)) 10 = numV (w.take j) * 10 := std_mul (by omega) (by omega)
  have e4 : stdF .ar .add .i64 (numV (w.take j) * 10) (Int.ofNat c.1.1.1) = numV (w.take j) * 10 + Int.ofNat c.1.1.1 := std_add (by omega) (by omega)
  have e1 : stdF .ar .sub .i64 (numV (w.take j) * 10 + Int.ofNat c.1.1.1) 48 = numV (w.take j) * 10 + Int.ofNat c.1.1.1 - 48 := std_sub (by omega) (by omega)
  have e5 : stdF .ar .add .i64 (j : Int) 1 = ((j + 1 : Nat) : Int) := by rw [std_add (by omega) (by omega)]; rfl
  have e6 : numV (w.take (j + 1)) = numV (w.take j) * 10 + Int.ofNat c.1.1.1 - 48 := by
    rw [List.take_add_one, hx]
    refine (numV_snoc _ _).trans ?_
    show 10 * numV (w.take j) + (Int.ofNat c.1.1.1 - 48) = _
    omega
  have h0 : stdF .cmp .lss (j : Int) (Int.ofNat (stdF .slen w)) = true := std_lssT (by show (j : Int) < (w.length : Int); omega)
  have h1 : stdF .cmp .leq 0 (j : Int) = true := std_leqT (by omega)
  unfold j8
  rw [e6]
  rcases x with _ | rows | ⟨rows, k0, k1, k2⟩
  · have := it8jA_1 stdF (look fl) okS inB (bareF false) t w i k 0 true true [] (numV (w.take j)) j c h0 h1 hx
    rw [e2, e3, e4, e1, e5] at this; exact this
  · have := it8jB_1 stdF (look fl) okS inB (bareF false) t w i k 0 true true rows (numV (w.take j)) j c h0 h1 hx
    rw [e2, e3, e4, e1, e5] at this; exact this
  · have := it8jC_1 stdF (look fl) okS inB (bareF false) t w i k k2 true true rows (numV (w.take j)) j c h0 h1 hx
    rw [e2, e3, e4, e1, e5] at this; exact this
theorem loopj (x : Sh) (t w : List UInt8) (i k : Nat) (hw : w.length ≤ 6) (hd : w.all isDc = true) :
    L8 b8j (j8 x t w i k 0) = some (.exit 4, w8 x t i k [(9, SV.p (PV.str w)), (10, P10), (11, iv w.length)] [(144, bv false)] (bx 2 w (numV w) i)) := by
  refine allL_eq (for_run (T := T8) (ba := ⟨0, 0⟩) (c := fun _ _ _ _ _ => none) (Lp := fun _ _ => none) okC_none okL_none (b := b8j) (fun j => j8 x t w i k j) _ (by simp) w.length
    (fun j hj => stepj x t w i k hw hd j hj) ?_ 0 (Nat.zero_le _))
  rw [← symA_std]
  unfold j8
  rw [List.take_length]
  have h0 : stdF .cmp .lss ((w.length : Nat) : Int) (Int.ofNat (stdF .slen w)) = false := std_lssF (by show ¬ (w.length : Int) < (w.length : Int); omega)
  rcases x with _ | rows | ⟨rows, k0, k1, k2⟩
  · exact it8jA_0 stdF (look fl) okS inB (bareF false) t w i k 0 true true [] (numV w) w.length h0
  · exact it8jB_0 stdF (look fl) okS inB (bareF false) t w i k 0 true true rows (numV w) w.length h0
  · exact it8jC_0 stdF (look fl) okS inB (bareF false) t w i k k2 true true rows (numV w) w.length h0
end Go.Proofs.Ytkkainkhjimcmaa.L
