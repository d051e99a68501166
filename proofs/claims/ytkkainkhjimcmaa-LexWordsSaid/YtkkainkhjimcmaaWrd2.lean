import Derived.Test.YtkkainkhjimcmaaWrd
import Derived.Test.YtkkainkhjimcmaaWrd0
/-
LexWords: the law's run, whole.
-/
namespace Go.Proofs.Ytkkainkhjimcmaa.L
open Go Go.VM
set_option linter.unusedVariables false
set_option linter.unusedSectionVars false
set_option maxRecDepth 100000
set_option maxHeartbeats 4000000
theorem ps5w_ok : PrimOk Try.prog (T (ps5w sZ sP sAt sE)) := prims_q aw_true (prims_q p7 (prims_q p8 prims_nil))
abbrev T5 : Tab := T (ps5w sZ sP sAt sE)
noncomputable abbrev L5 : VCode → St → Option (Ex × St) := allL T5 ⟨0, 0⟩
noncomputable def E5 (v : VCode) (σ : St) : Option (Ex × St) := @S.evS stdA T5 (fun _ _ _ _ _ => none) L5 ⟨0, 0⟩ v σ
theorem E5_seq {x y : VCode} {σ σ' : St} (h : E5 x σ = some (.normal, σ')) : E5 (.seq x y) σ = E5 y σ' := by
  have e : E5 (.seq x y) σ = (match E5 x σ with | some (.normal, σ') => E5 y σ' | r => r) := rfl
  rw [e, h]
theorem E5_out {x y : VCode} {σ σ' : St} {ex : Ex} (h : E5 x σ = some (ex, σ')) (hn : ex ≠ .normal) : E5 (.seq x y) σ = some (ex, σ') := by
  have e : E5 (.seq x y) σ = (match E5 x σ with | some (.normal, σ') => E5 y σ' | r => r) := rfl
  rw [e, h]
  cases ex with
  | normal => exact absurd rfl hn
  | exit j => rfl
  | ret => rfl
theorem E5_blk {j : Nat} {b : VCode} {σ σ' : St} (h : E5 b σ = some (.exit j, σ')) : E5 (.block j b) σ = some (.normal, σ') := by
  have e : E5 (.block j b) σ = (match E5 b σ with | some (.exit k, σ') => some (if k = j then .normal else .exit k, σ') | r => r) := rfl
  rw [e, h]
  show some (if j = j then Ex.normal else Ex.exit j, σ') = _
  rw [if_pos rfl]
theorem E5_blkX {j k : Nat} {b : VCode} {σ σ' : St} (h : E5 b σ = some (.exit k, σ')) (hk : k ≠ j) : E5 (.block j b) σ = some (.exit k, σ') := by
  have e : E5 (.block j b) σ = (match E5 b σ with | some (.exit k, σ') => some (if k = j then .normal else .exit k, σ') | r => r) := rfl
  rw [e, h]
  show some (if k = j then Ex.normal else Ex.exit k, σ') = _
  rw [if_neg hk]
theorem E5_blkN {j : Nat} {b : VCode} {σ σ' : St} (h : E5 b σ = some (.normal, σ')) : E5 (.block j b) σ = some (.normal, σ') := by
  have e : E5 (.block j b) σ = (match E5 b σ with | some (.exit k, σ') => some (if k = j then .normal else .exit k, σ') | r => r) := rfl
  rw [e, h]
/-! ### states -/
def wv : List (List PV) → SV
  | [] => SV.p PV.nils
  | t :: r => SV.own 1 (t :: r)
def s5 (ws : List (List PV)) (g0 : PV) (s : List UInt8) (ts : List (List PV)) (i : Int) (pA pB : List (Nat × SV)) : St :=
  { env := [(0, SV.p (PV.ro 1 ws)), (1, SV.p g0), (5, SV.p (PV.str s)), (6, wv ts)] ++ pA ++ [(18, SV.p (PV.ro 1 ws)), (19, iv (ws.length : Nat)), (20, iv i)] ++ pB ++ [(68, SV.undef)], fr := [(17, [])], hp := [], out := [] }
abbrev sv (w : List UInt8) : SV := SV.p (PV.str w)
section
variable (ws : List (List PV)) (g0 : PV) (s w : List UInt8) (ts : List (List PV)) (i : Nat)
theorem q_0 (h : i < ws.length) : E5 a5_0 (s5 ws g0 s ts i [] []) = some (.normal, s5 ws g0 s ts i [] [(21, bv true)]) := by
  have h0 : stdF .cmp .lss (i : Int) ((ws.length : Nat) : Int) = true := std_lssT (by omega)
  unfold E5; rw [← symA_std]
  rcases ts with _ | ⟨t, r⟩
  · have := u0N_0 stdF (look fl) sZ sP sAt sE L5 s [] [] ws [] [] g0 i (ws.length : Nat) 0
    rw [h0] at this; exact this
  · have := u0O_0 stdF (look fl) sZ sP sAt sE L5 s [] [] ws (t :: r) [] g0 i (ws.length : Nat) 0
    rw [h0] at this; exact this
theorem q_0F (h : ¬ i < ws.length) : E5 a5_0 (s5 ws g0 s ts i [] []) = some (.normal, s5 ws g0 s ts i [] [(21, bv false)]) := by
  have h0 : stdF .cmp .lss (i : Int) ((ws.length : Nat) : Int) = false := std_lssF (by omega)
  unfold E5; rw [← symA_std]
  rcases ts with _ | ⟨t, r⟩
  · have := u0N_0 stdF (look fl) sZ sP sAt sE L5 s [] [] ws [] [] g0 i (ws.length : Nat) 0
    rw [h0] at this; exact this
  · have := u0O_0 stdF (look fl) sZ sP sAt sE L5 s [] [] ws (t :: r) [] g0 i (ws.length : Nat) 0
    rw [h0] at this; exact this
theorem q_c : E5 (.cond (.t 21) .skip (.exit 0)) (s5 ws g0 s ts i [] [(21, bv true)]) = some (.normal, s5 ws g0 s ts i [] [(21, bv true)]) := rfl
theorem q_cF : E5 (.cond (.t 21) .skip (.exit 0)) (s5 ws g0 s ts i [] [(21, bv false)]) = some (.exit 0, s5 ws g0 s ts i [] [(21, bv false)]) := rfl
theorem q_1 (h : ws[i]? = some [.str w]) : E5 b5_0 (s5 ws g0 s ts i [] [(21, bv true)]) = some (.normal, s5 ws g0 s ts i [(7, iv i), (8, sv w)] [(22, iv i), (24, sv w)]) := by
  have h0 : stdF .cmp .leq 0 (i : Int) = true := std_leqT (by omega)
  unfold E5; rw [← symA_std]
  rcases ts with _ | ⟨t, r⟩
  · exact u1N_0 stdF (look fl) sZ sP sAt sE L5 s w w ws [] [] g0 i (ws.length : Nat) 0 w h0 h
  · exact u1O_0 stdF (look fl) sZ sP sAt sE L5 s w w ws (t :: r) [] g0 i (ws.length : Nat) 0 w h0 h
theorem q_2T (h : 30 ≤ i) : E5 b5_1 (s5 ws g0 s ts i [(7, iv i), (8, sv w)] [(22, iv i), (24, sv w)]) = some (.exit 0, s5 ws g0 s ts i [(7, iv i), (8, sv w)] [(22, iv i), (24, sv w), (26, bv true)]) := by
  have h0 : stdF .cmp .geq (i : Int) 30 = true := std_geqT (by omega)
  unfold E5; rw [← symA_std]
  rcases ts with _ | ⟨t, r⟩
  · exact u2N_0 stdF (look fl) sZ sP sAt sE L5 s w w ws [] [] g0 i (ws.length : Nat) 0 h0
  · exact u2O_0 stdF (look fl) sZ sP sAt sE L5 s w w ws (t :: r) [] g0 i (ws.length : Nat) 0 h0
theorem q_2F (h : ¬ 30 ≤ i) : E5 b5_1 (s5 ws g0 s ts i [(7, iv i), (8, sv w)] [(22, iv i), (24, sv w)]) = some (.normal, s5 ws g0 s ts i [(7, iv i), (8, sv w)] [(22, iv i), (24, sv w), (26, bv false)]) := by
  have h0 : stdF .cmp .geq (i : Int) 30 = false := std_geqF (by omega)
  unfold E5; rw [← symA_std]
  rcases ts with _ | ⟨t, r⟩
  · exact u2N_1 stdF (look fl) sZ sP sAt sE L5 s w w ws [] [] g0 i (ws.length : Nat) 0 h0
  · exact u2O_1 stdF (look fl) sZ sP sAt sE L5 s w w ws (t :: r) [] g0 i (ws.length : Nat) 0 h0
/-- a word is looked at: it is a token, whole, or the round is over -/
theorem q_34 (X : VCode) : (Tok w ∧ E5 (.seq b5_2 (.seq b5_3 X)) (s5 ws g0 s ts i [(7, iv i), (8, sv w)] [(22, iv i), (24, sv w), (26, bv false)]) = E5 X (s5 ws g0 s ts i [(7, iv i), (8, sv w)] [(22, iv i), (24, sv w), (47, bv false)])) ∨
    E5 (.seq b5_2 (.seq b5_3 X)) (s5 ws g0 s ts i [(7, iv i), (8, sv w)] [(22, iv i), (24, sv w), (26, bv false)]) = some (.exit 1, s5 ws g0 s ts i [(7, iv i), (8, sv w)] [(22, iv i), (24, sv w), (47, bv true)]) := by
  cases hz : sZ w with
  | true =>
    right
    have h3 : E5 b5_2 (s5 ws g0 s ts i [(7, iv i), (8, sv w)] [(22, iv i), (24, sv w), (26, bv false)]) = some (.normal, s5 ws g0 s ts i [(7, iv i), (8, sv w), (9, SV.p PV.nils), (11, iv (sE w))] [(22, iv i), (24, sv w), (30, SV.p PV.nils), (32, iv (sE w))]) := by
      unfold E5; rw [← symA_std]
      rcases ts with _ | ⟨t, r⟩
      · exact u3Nt_0 stdF (look fl) sZ sP sAt sE L5 s w w ws [] [] g0 i (ws.length : Nat) 0 hz
      · exact u3Ot_0 stdF (look fl) sZ sP sAt sE L5 s w w ws (t :: r) [] g0 i (ws.length : Nat) 0 hz
    rw [E5_seq h3]
    refine E5_out ?_ (by simp)
    unfold E5; rw [← symA_std]
    by_cases hE : sE w = 0
    · have g0' := std_neqF hE
      have g1 : stdF .cmp .neq (Int.ofNat 0) 1 = true := std_neqT (by decide)
      rcases ts with _ | ⟨t, r⟩
      · exact u4Nt_1 stdF (look fl) sZ sP sAt sE L5 s w w ws [] [] g0 i (ws.length : Nat) (sE w) [] g0' g1
      · exact u4Ot_1 stdF (look fl) sZ sP sAt sE L5 s w w ws (t :: r) [] g0 i (ws.length : Nat) (sE w) [] g0' g1
    · have g0' := std_neqT hE
      rcases ts with _ | ⟨t, r⟩
      · exact u4Nt_0 stdF (look fl) sZ sP sAt sE L5 s w w ws [] [] g0 i (ws.length : Nat) (sE w) [] g0'
      · exact u4Ot_0 stdF (look fl) sZ sP sAt sE L5 s w w ws (t :: r) [] g0 i (ws.length : Nat) (sE w) [] g0'
  | false =>
    have h3 : E5 b5_2 (s5 ws g0 s ts i [(7, iv i), (8, sv w)] [(22, iv i), (24, sv w), (26, bv false)]) = some (.normal, s5 ws g0 s ts i [(7, iv i), (8, sv w), (9, SV.own 4 (sP w)), (11, iv (sE w))] [(22, iv i), (24, sv w), (30, SV.undef), (32, iv (sE w))]) := by
      unfold E5; rw [← symA_std]
      rcases ts with _ | ⟨t, r⟩
      · exact u3Nf_0 stdF (look fl) sZ sP sAt sE L5 s w w ws [] [] g0 i (ws.length : Nat) 0 hz
      · exact u3Of_0 stdF (look fl) sZ sP sAt sE L5 s w w ws (t :: r) [] g0 i (ws.length : Nat) 0 hz
    rw [E5_seq h3]
    by_cases hE : sE w = 0
    · have g0' := std_neqF hE
      by_cases hl : (sP w).length = 1
      · have g1 : stdF .cmp .neq (Int.ofNat (stdF .rlen (sP w))) 1 = false := std_neqF (by show ((sP w).length : Int) = 1; omega)
        have g3 : stdF .le (stdF .rlen (sP w)) (stdF .toN 0) = false := std_leF (by show ¬ (sP w).length ≤ 0; omega)
        obtain ⟨e, he⟩ : ∃ e, sP w = [e] := List.length_eq_one_iff.mp hl
        have hw4 : w.length ≤ 4096 := by
          rcases Nat.lt_or_ge 4096 w.length with h | h
          · unfold sE splitR at hE; rw [if_pos h] at hE; simp at hE
          · exact h
        obtain ⟨k, u, m, q, hrow, _⟩ := (sP_rows w hw4).2 e (by rw [he]; simp)
        have hg : (sP w)[0]? = some [.int .i64 k, .str u, .int .i64 m, .int .i64 q] := by rw [he, hrow]; rfl
        by_cases hu : u = w
        · left
          subst hu
          refine ⟨tok_of hE hg rfl, E5_seq ?_⟩
          have g5 : stdF .scmp .neq u u = false := by show (!(u == u)) = false; simp
          unfold E5; rw [← symA_std]
          rcases ts with _ | ⟨t, r⟩
          · exact u4Nf_3 stdF (look fl) sZ sP sAt sE L5 s u u ws [] [] g0 i (ws.length : Nat) (sE u) (sP u) k u m q g0' g1 rfl g3 hg g5
          · exact u4Of_3 stdF (look fl) sZ sP sAt sE L5 s u u ws (t :: r) [] g0 i (ws.length : Nat) (sE u) (sP u) k u m q g0' g1 rfl g3 hg g5
        · right
          refine E5_out ?_ (by simp)
          have g5 : stdF .scmp .neq u w = true := by show (!(u == w)) = true; simpa using hu
          unfold E5; rw [← symA_std]
          rcases ts with _ | ⟨t, r⟩
          · exact u4Nf_2 stdF (look fl) sZ sP sAt sE L5 s w w ws [] [] g0 i (ws.length : Nat) (sE w) (sP w) k u m q g0' g1 rfl g3 hg g5
          · exact u4Of_2 stdF (look fl) sZ sP sAt sE L5 s w w ws (t :: r) [] g0 i (ws.length : Nat) (sE w) (sP w) k u m q g0' g1 rfl g3 hg g5
      · right
        have g1 : stdF .cmp .neq (Int.ofNat (stdF .rlen (sP w))) 1 = true := std_neqT (by show ((sP w).length : Int) ≠ 1; omega)
        refine E5_out ?_ (by simp)
        unfold E5; rw [← symA_std]
        rcases ts with _ | ⟨t, r⟩
        · exact u4Nf_1 stdF (look fl) sZ sP sAt sE L5 s w w ws [] [] g0 i (ws.length : Nat) (sE w) (sP w) g0' g1
        · exact u4Of_1 stdF (look fl) sZ sP sAt sE L5 s w w ws (t :: r) [] g0 i (ws.length : Nat) (sE w) (sP w) g0' g1
    · right
      have g0' := std_neqT hE
      refine E5_out ?_ (by simp)
      unfold E5; rw [← symA_std]
      rcases ts with _ | ⟨t, r⟩
      · exact u4Nf_0 stdF (look fl) sZ sP sAt sE L5 s w w ws [] [] g0 i (ws.length : Nat) (sE w) (sP w) g0'
      · exact u4Of_0 stdF (look fl) sZ sP sAt sE L5 s w w ws (t :: r) [] g0 i (ws.length : Nat) (sE w) (sP w) g0'
theorem q_5 : E5 b5_4 (s5 ws g0 s ts i [(7, iv i), (8, sv w)] [(22, iv i), (24, sv w), (47, bv false)]) = some (.normal, s5 ws g0 s ts i [(7, iv i), (8, sv w), (12, iv 0)] [(22, iv i), (24, sv w)]) := by
  unfold E5; rw [← symA_std]
  rcases ts with _ | ⟨t, r⟩
  · exact u5N_0 stdF (look fl) sZ sP sAt sE L5 s w w ws [] [] g0 i (ws.length : Nat) 0
  · exact u5O_0 stdF (look fl) sZ sP sAt sE L5 s w w ws (t :: r) [] g0 i (ws.length : Nat) 0
theorem and3 (a : Int) : ∃ d : Nat, d < 4 ∧ stdF .ar .and .i64 a 3 = (d : Int) := by
  refine ⟨(BitVec.ofInt 64 a &&& BitVec.ofInt 64 3).toNat, ?_, ?_⟩
  · rw [BitVec.toNat_and]
    have : (BitVec.ofInt 64 3).toNat = 3 := by decide
    rw [this]
    have := Nat.and_le_right (n := (BitVec.ofInt 64 a).toNat) (m := 3)
    omega
  · show IntKind.i64.wrap ((BitVec.ofInt 64 a &&& BitVec.ofInt 64 3).toNat : Int) = _
    have h : (BitVec.ofInt 64 a &&& BitVec.ofInt 64 3).toNat ≤ 3 := by
      rw [BitVec.toNat_and]
      have : (BitVec.ofInt 64 3).toNat = 3 := by decide
      rw [this]
      exact Nat.and_le_right
    exact wrap64 (by omega) (by omega)
/-- what may be handed over as gaps -/
def okG (g0 : PV) : Prop := g0 = .nils ∨ ∃ gs : List (List PV), g0 = .ro 1 gs ∧ gs.length ≤ maxLen ∧ ∀ e ∈ gs, ∃ n : Int, e = [.int .i64 n]
theorem q_6 (hi : i ≤ 30) (hG : okG g0) : E5 b5_5 (s5 ws g0 s ts i [(7, iv i), (8, sv w), (12, iv 0)] [(22, iv i), (24, sv w)]) = some (.normal, s5 ws g0 s ts i [(7, iv i), (8, sv w), (12, iv 0)] [(22, iv i), (24, sv w), (51, bv false)]) ∨
    ∃ d : Nat, d < 4 ∧ E5 b5_5 (s5 ws g0 s ts i [(7, iv i), (8, sv w), (12, iv 0)] [(22, iv i), (24, sv w)]) = some (.normal, s5 ws g0 s ts i [(8, sv w), (12, iv d)] [(24, sv w)]) := by
  rcases hG with rfl | ⟨gs, rfl, hl, hg⟩
  · left
    have h0 : stdF .cmp .lss (i : Int) (Int.ofNat 0) = false := std_lssF (by show ¬ (i : Int) < 0; omega)
    unfold E5; rw [← symA_std]
    rcases ts with _ | ⟨t, r⟩
    · exact u6Nn_0 stdF (look fl) sZ sP sAt sE L5 s w w ws [] [] .nils i (ws.length : Nat) 0 h0
    · exact u6On_0 stdF (look fl) sZ sP sAt sE L5 s w w ws (t :: r) [] .nils i (ws.length : Nat) 0 h0
  · by_cases hlt : i < gs.length
    · right
      obtain ⟨a, ha⟩ := hg _ (List.getElem_mem hlt)
      have hx : gs[i]? = some [.int .i64 a] := by rw [List.getElem?_eq_getElem hlt, ha]
      obtain ⟨d, hd, he⟩ := and3 a
      refine ⟨d, hd, ?_⟩
      have h0 : stdF .cmp .lss (i : Int) (Int.ofNat (stdF .rlen gs)) = true := std_lssT (by show (i : Int) < (gs.length : Int); omega)
      have h1 : stdF .cmp .leq 0 (i : Int) = true := std_leqT (by omega)
      rw [← he]
      unfold E5; rw [← symA_std]
      rcases ts with _ | ⟨t, r⟩
      · exact u6Nr_1 stdF (look fl) sZ sP sAt sE L5 s w w ws [] gs .nils i (ws.length : Nat) 0 a h0 h1 hx
      · exact u6Or_1 stdF (look fl) sZ sP sAt sE L5 s w w ws (t :: r) gs .nils i (ws.length : Nat) 0 a h0 h1 hx
    · left
      have h0 : stdF .cmp .lss (i : Int) (Int.ofNat (stdF .rlen gs)) = false := std_lssF (by show ¬ (i : Int) < (gs.length : Int); omega)
      unfold E5; rw [← symA_std]
      rcases ts with _ | ⟨t, r⟩
      · exact u6Nr_0 stdF (look fl) sZ sP sAt sE L5 s w w ws [] gs .nils i (ws.length : Nat) 0 h0
      · exact u6Or_0 stdF (look fl) sZ sP sAt sE L5 s w w ws (t :: r) gs .nils i (ws.length : Nat) 0 h0
theorem gap_at (d : Nat) (h : d < 4) : ∃ g, isGap g ∧ gapL[d]? = some [.str g] := by
  rcases d with _ | _ | _ | _ | d
  · exact ⟨_, .inl rfl, rfl⟩
  · exact ⟨_, .inr (.inl rfl), rfl⟩
  · exact ⟨_, .inr (.inr (.inl rfl)), rfl⟩
  · exact ⟨_, .inr (.inr (.inr rfl)), rfl⟩
  · omega
theorem sfit_of {a b : List UInt8} (h : a.length + b.length ≤ 100000) : stdF .sfit a b = true := decide_eq_true (by omega)
theorem q_7p (hs : s.length ≤ 5000) (hw : w.length ≤ 16) : E5 b5_6 (s5 ws g0 s ts i [(7, iv i), (8, sv w), (12, iv 0)] [(22, iv i), (24, sv w), (51, bv false)]) = some (.normal, s5 ws g0 (s ++ (w ++ [32])) ts i [(8, sv w)] [(24, sv w)]) := by
  have h3 : stdF .sfit w [32] = true := sfit_of (by simp only [List.length_cons, List.length_nil]; omega)
  have h4 : stdF .sfit s (stdF .scat w [32]) = true := sfit_of (by show s.length + (w ++ [32]).length ≤ _; rw [List.length_append]; simp only [List.length_cons, List.length_nil]; omega)
  unfold E5; rw [← symA_std]
  rcases ts with _ | ⟨t, r⟩
  · exact u7Np_0 stdF (look fl) sZ sP sAt sE L5 s w w ws [] [] g0 i (ws.length : Nat) 0 [32] rfl rfl rfl h3 h4
  · exact u7Op_0 stdF (look fl) sZ sP sAt sE L5 s w w ws (t :: r) [] g0 i (ws.length : Nat) 0 [32] rfl rfl rfl h3 h4
theorem q_7q (hs : s.length ≤ 5000) (hw : w.length ≤ 16) (d : Nat) (hd : d < 4) {g : List UInt8} (hg : isGap g) (hx : gapL[d]? = some [.str g]) : E5 b5_6 (s5 ws g0 s ts i [(8, sv w), (12, iv d)] [(24, sv w)]) = some (.normal, s5 ws g0 (s ++ (w ++ g)) ts i [(8, sv w)] [(24, sv w)]) := by
  have hl := gap_len hg
  have h0 : stdF .cmp .leq 0 (d : Int) = true := std_leqT (by omega)
  have h1 : stdF .le (stdF .rlen gapL) (stdF .toN (d : Int)) = false := std_leF (by show ¬ 4 ≤ d; omega)
  have h2 : stdF .rget gapL (stdF .add 0 (stdF .toN (d : Int))) = some [.str g] := by
    show gapL[0 + d]? = _
    rw [Nat.zero_add]; exact hx
  have h3 : stdF .sfit w g = true := sfit_of (by omega)
  have h4 : stdF .sfit s (stdF .scat w g) = true := sfit_of (by show s.length + (w ++ g).length ≤ _; rw [List.length_append]; omega)
  unfold E5; rw [← symA_std]
  rcases ts with _ | ⟨t, r⟩
  · exact u7Nq_0 stdF (look fl) sZ sP sAt sE L5 s w w ws [] [] g0 i (ws.length : Nat) d g h0 h1 h2 h3 h4
  · exact u7Oq_0 stdF (look fl) sZ sP sAt sE L5 s w w ws (t :: r) [] g0 i (ws.length : Nat) d g h0 h1 h2 h3 h4
theorem q_8 (ht : ts.length ≤ 1000) : E5 b5_7 (s5 ws g0 s ts i [(8, sv w)] [(24, sv w)]) = some (.normal, s5 ws g0 s (ts ++ [[.str w]]) i [] []) := by
  unfold E5; rw [← symA_std]
  rcases ts with _ | ⟨t, r⟩
  · exact u8N_0 stdF (look fl) sZ sP sAt sE L5 s w w ws [] [] g0 i (ws.length : Nat) 0 rfl rfl rfl rfl
  · have := u8O_0 stdF (look fl) sZ sP sAt sE L5 s w w ws (t :: r) [] g0 i (ws.length : Nat) 0 rfl rfl (le_all (t :: r)) (decide_eq_true (by
      show ((t :: r).length + 1) * 16 ≤ 70368744177664 ∧ (t :: r).length + 1 ≤ 70368744177664; omega))
    rw [rp_all' (t :: r)] at this; exact this
theorem q_9 (hi : i < 9000000000000000000) : E5 a5_3 (s5 ws g0 s ts i [] []) = some (.normal, s5 ws g0 s ts ((i + 1 : Nat) : Int) [] []) := by
  have ha : stdF .ar .add .i64 (i : Int) 1 = ((i + 1 : Nat) : Int) := by rw [std_add (by omega) (by omega)]; rfl
  unfold E5; rw [← symA_std, ← ha]
  rcases ts with _ | ⟨t, r⟩
  · exact u9N_0 stdF (look fl) sZ sP sAt sE L5 s [] [] ws [] [] g0 i (ws.length : Nat) 0
  · exact u9O_0 stdF (look fl) sZ sP sAt sE L5 s [] [] ws (t :: r) [] g0 i (ws.length : Nat) 0
theorem q_9e (hi : i < 9000000000000000000) : E5 a5_3 (s5 ws g0 s ts i [(7, iv i), (8, sv w)] [(22, iv i), (24, sv w), (47, bv true)]) = some (.normal, s5 ws g0 s ts ((i + 1 : Nat) : Int) [] []) := by
  have ha : stdF .ar .add .i64 (i : Int) 1 = ((i + 1 : Nat) : Int) := by rw [std_add (by omega) (by omega)]; rfl
  unfold E5; rw [← symA_std, ← ha]
  rcases ts with _ | ⟨t, r⟩
  · exact u9eN_0 stdF (look fl) sZ sP sAt sE L5 s w w ws [] [] g0 i (ws.length : Nat) 0
  · exact u9eO_0 stdF (look fl) sZ sP sAt sE L5 s w w ws (t :: r) [] g0 i (ws.length : Nat) 0
end
/-! ### the first loop -/
def tsOf (ps : Ps) : List (List PV) := ps.map fun p => [PV.str p.1]
def BLK5 : VCode := .seq b5_0 (.seq b5_1 (.seq b5_2 (.seq b5_3 (.seq b5_4 (.seq b5_5 (.seq b5_6 b5_7))))))
theorem d5a_eq : d5a = .seq a5_0 (.seq (.cond (.t 21) .skip (.exit 0)) (.seq (.block 1 BLK5) a5_3)) := rfl
/-- where the first loop ends -/
def Fin5 (ws : List (List PV)) (g0 : PV) (r : Ex × St) : Prop := ∃ (ps : Ps) (i : Nat), okP ps ∧ ps.length ≤ 30 ∧
  (r = (.exit 0, s5 ws g0 (SP ps) (tsOf ps) i [] [(21, bv false)]) ∨ ∃ w, r = (.exit 0, s5 ws g0 (SP ps) (tsOf ps) i [(7, iv i), (8, sv w)] [(22, iv i), (24, sv w), (26, bv true)]))
theorem loop5a (ws : List (List PV)) (g0 : PV) (hG : okG g0) (hl : ws.length ≤ maxLen) (hw : ∀ e ∈ ws, ∃ w, e = [PV.str w]) :
    ∀ a : Nat × Ps, (okP a.2 ∧ a.2.length ≤ a.1 ∧ a.2.length ≤ 30) → ∃ r, ExecTo T5 ⟨0, 0⟩ (.loop d5a) (s5 ws g0 (SP a.2) (tsOf a.2) a.1 [] []) r ∧ Fin5 ws g0 r := by
  have hM : maxLen = 9223372036854775807 := rfl
  refine loop_rel (α := Nat × Ps) (c := fun _ _ _ _ _ => none) (Lp := L5) okC_none allL_ok (fun a => s5 ws g0 (SP a.2) (tsOf a.2) a.1 [] []) (fun a => ws.length - a.1)
    (fun _ r => Fin5 ws g0 r) (fun a => okP a.2 ∧ a.2.length ≤ a.1 ∧ a.2.length ≤ 30) ?_
  rintro ⟨i, ps⟩ ⟨hok, hpi, hp30⟩
  simp only at hok hpi hp30
  change (∃ a' : Nat × Ps, E5 d5a (s5 ws g0 (SP ps) (tsOf ps) i [] []) = some (.normal, s5 ws g0 (SP a'.2) (tsOf a'.2) a'.1 [] []) ∧ _) ∨ (∃ ex σ', E5 d5a (s5 ws g0 (SP ps) (tsOf ps) i [] []) = some (ex, σ') ∧ _)
  rw [d5a_eq]
  by_cases hlt : i < ws.length
  · obtain ⟨w, he⟩ := hw _ (List.getElem_mem hlt)
    have hx : ws[i]? = some [PV.str w] := by rw [List.getElem?_eq_getElem hlt, he]
    rw [E5_seq (q_0 ws g0 _ _ i hlt), E5_seq (q_c ws g0 _ _ i)]
    have b0 := q_1 ws g0 (SP ps) w (tsOf ps) i hx
    by_cases h30 : 30 ≤ i
    · right
      have hB : E5 BLK5 (s5 ws g0 (SP ps) (tsOf ps) i [] [(21, bv true)]) = some (.exit 0, s5 ws g0 (SP ps) (tsOf ps) i [(7, iv i), (8, sv w)] [(22, iv i), (24, sv w), (26, bv true)]) :=
        (E5_seq b0).trans (E5_out (q_2T ws g0 (SP ps) w (tsOf ps) i h30) (by simp))
      exact ⟨_, _, E5_out (E5_blkX hB (by decide)) (by simp), by simp, ps, i, hok, hp30, .inr ⟨w, rfl⟩⟩
    · left
      have hi63 : i < 9000000000000000000 := by omega
      rcases q_34 ws g0 (SP ps) w (tsOf ps) i (.seq b5_4 (.seq b5_5 (.seq b5_6 b5_7))) with ⟨ht, h4⟩ | h4
      · have hw16 : w.length ≤ 16 := by have := tok_short w ht.1; rw [ht.2] at this; exact this
        have hs : (SP ps).length ≤ 5000 := by have := SP_len ps hok; omega
        have htl : (tsOf ps).length ≤ 1000 := by unfold tsOf; rw [List.length_map]; omega
        have fin : ∀ g, isGap g → E5 (.seq b5_4 (.seq b5_5 (.seq b5_6 b5_7))) (s5 ws g0 (SP ps) (tsOf ps) i [(7, iv i), (8, sv w)] [(22, iv i), (24, sv w), (47, bv false)]) = some (.normal, s5 ws g0 (SP ps ++ (w ++ g)) (tsOf ps ++ [[.str w]]) i [] []) →
            ∃ a' : Nat × Ps, E5 (.seq (.block 1 BLK5) a5_3) (s5 ws g0 (SP ps) (tsOf ps) i [] [(21, bv true)]) = some (.normal, s5 ws g0 (SP a'.2) (tsOf a'.2) a'.1 [] []) ∧ (okP a'.2 ∧ a'.2.length ≤ a'.1 ∧ a'.2.length ≤ 30) ∧ ws.length - a'.1 < ws.length - i ∧ ∀ r, Fin5 ws g0 r → Fin5 ws g0 r := by
          intro g hg h5
          have hB : E5 BLK5 (s5 ws g0 (SP ps) (tsOf ps) i [] [(21, bv true)]) = some (.normal, s5 ws g0 (SP ps ++ (w ++ g)) (tsOf ps ++ [[.str w]]) i [] []) :=
            (E5_seq b0).trans ((E5_seq (q_2F ws g0 (SP ps) w (tsOf ps) i h30)).trans (h4.trans h5))
          have eS : SP (ps ++ [(w, g)]) = SP ps ++ (w ++ g) := by rw [SP_append]; simp only [SP, List.append_nil]
          have eT : tsOf (ps ++ [(w, g)]) = tsOf ps ++ [[.str w]] := by unfold tsOf; rw [List.map_append]; rfl
          refine ⟨(i + 1, ps ++ [(w, g)]), ?_, ⟨?_, ?_, ?_⟩, by show ws.length - (i + 1) < ws.length - i; omega, fun _ h => h⟩
          · rw [E5_seq (E5_blkN hB), q_9 ws g0 _ _ i hi63, eS, eT]
          · intro q hq
            rcases List.mem_append.mp hq with hq | hq
            · exact hok q hq
            · rw [List.mem_singleton] at hq; subst hq; exact ⟨ht, hg⟩
          · show (ps ++ [(w, g)]).length ≤ i + 1
            rw [List.length_append]; simp only [List.length_cons, List.length_nil]; omega
          · show (ps ++ [(w, g)]).length ≤ 30
            rw [List.length_append]; simp only [List.length_cons, List.length_nil]; omega
        have h5 := q_5 ws g0 (SP ps) w (tsOf ps) i
        rcases q_6 ws g0 (SP ps) w (tsOf ps) i (by omega) hG with h6 | ⟨d, hd, h6⟩
        · exact fin [32] (.inl rfl) ((E5_seq h5).trans ((E5_seq h6).trans ((E5_seq (q_7p ws g0 _ w _ i hs hw16)).trans (q_8 ws g0 _ w _ i htl))))
        · obtain ⟨g, hg, hx⟩ := gap_at d hd
          exact fin g hg ((E5_seq h5).trans ((E5_seq h6).trans ((E5_seq (q_7q ws g0 _ w _ i hs hw16 d hd hg hx)).trans (q_8 ws g0 _ w _ i htl))))
      · have hB : E5 BLK5 (s5 ws g0 (SP ps) (tsOf ps) i [] [(21, bv true)]) = some (.exit 1, s5 ws g0 (SP ps) (tsOf ps) i [(7, iv i), (8, sv w)] [(22, iv i), (24, sv w), (47, bv true)]) :=
          (E5_seq b0).trans ((E5_seq (q_2F ws g0 (SP ps) w (tsOf ps) i h30)).trans h4)
        exact ⟨(i + 1, ps), (E5_seq (E5_blk hB)).trans (q_9e ws g0 _ w _ i hi63), ⟨hok, by show ps.length ≤ i + 1; omega, hp30⟩, by show ws.length - (i + 1) < ws.length - i; omega, fun _ h => h⟩
  · right
    rw [E5_seq (q_0F ws g0 _ _ i hlt)]
    exact ⟨_, _, E5_out (q_cF ws g0 _ _ i) (by simp), by simp, ps, i, hok, hp30, .inl rfl⟩
/-! ### the second loop -/
def t5 (ts rs : List (List PV)) (j : Int) (x : List (Nat × SV)) : St := { env := [(6, SV.own 1 ts), (13, SV.own 4 rs), (68, SV.undef), (73, SV.undef), (85, SV.al { root := Root.sl 13, off := 0, row := none } 4 0 rs.length), (86, iv (rs.length : Nat)), (87, iv j)] ++ x, fr := [(17, [])], hp := [], out := [] }
theorem loop5b (ps : Ps) (h30 : ps.length ≤ 30) : L5 d5b (t5 (tsOf ps) (tkRows 0 ps) 0 []) = some (.exit 2, t5 (tsOf ps) (tkRows 0 ps) (ps.length : Nat) [(88, bv false)]) := by
  have hrl := tkRows_len ps 0
  have htl : (tsOf ps).length = ps.length := by unfold tsOf; rw [List.length_map]
  refine allL_eq (for_run (T := T5) (ba := ⟨0, 0⟩) (c := fun _ _ _ _ _ => none) (Lp := fun _ _ => none) okC_none okL_none (b := d5b) (fun j => t5 (tsOf ps) (tkRows 0 ps) (j : Nat) []) _ (by simp) ps.length
    (fun j hj => ?_) ?_ 0 (Nat.zero_le _))
  · rw [← symA_std]
    have hp : ps[j]? = some ps[j] := List.getElem?_eq_getElem hj
    obtain ⟨k, m, q, hr⟩ := tkRows_get ps 0 j _ hp
    have ht : (tsOf ps)[j]? = some [.str ps[j].1] := by unfold tsOf; rw [List.getElem?_map, hp]; rfl
    have h0 : stdF .cmp .lss (j : Int) ((tkRows 0 ps).length : Nat) = true := std_lssT (by omega)
    have h1 : stdF .cmp .leq 0 (j : Int) = true := std_leqT (by omega)
    have h2 : stdF .le (stdF .rlen (tkRows 0 ps)) (stdF .toN (j : Int)) = false := std_leF (by show ¬ (tkRows 0 ps).length ≤ j; omega)
    have h5 : stdF .le (stdF .rlen (tsOf ps)) (stdF .toN (j : Int)) = false := std_leF (by show ¬ (tsOf ps).length ≤ j; omega)
    have hz : stdF .add 0 (stdF .toN (j : Int)) = j := Nat.zero_add j
    have h3 : stdF .rget (tkRows 0 ps) (stdF .add 0 (stdF .toN (j : Int))) = some [.int .i64 k, .str ps[j].1, .int .i64 m, .int .i64 q] := by rw [hz]; exact hr
    have h6 : stdF .rget (tsOf ps) (stdF .add 0 (stdF .toN (j : Int))) = some [.str ps[j].1] := by rw [hz]; exact ht
    have h7 : stdF .scmp .neq ps[j].1 ps[j].1 = false := by show (!(ps[j].1 == ps[j].1)) = false; simp
    have ha : stdF .ar .add .i64 (j : Int) 1 = ((j + 1 : Nat) : Int) := by rw [std_add (by omega) (by omega)]; rfl
    have := v0O_1 stdF (look fl) sZ sP sAt sE (tsOf ps) (tkRows 0 ps) ((tkRows 0 ps).length : Nat) j k ps[j].1 m q ps[j].1 h0 h1 h2 h3 h1 h5 h6 h7
    rw [ha] at this
    exact this
  · rw [← symA_std]
    exact v0O_0 stdF (look fl) sZ sP sAt sE (tsOf ps) (tkRows 0 ps) ((tkRows 0 ps).length : Nat) (ps.length : Nat) (std_lssF (by omega))
theorem loop5n (j : Int) : L5 d5b { env := [(6, SV.p PV.nils), (13, SV.p PV.nils), (68, SV.undef), (73, SV.p PV.nils), (85, SV.p PV.nils), (86, iv 0), (87, iv 0)], fr := [(17, [])], hp := [], out := [] } = some (.exit 2, { env := [(6, SV.p PV.nils), (13, SV.p PV.nils), (68, SV.undef), (73, SV.p PV.nils), (85, SV.p PV.nils), (86, iv 0), (87, iv 0), (88, bv false)], fr := [(17, [])], hp := [], out := [] }) :=
  allL_eq ((evS_to (T := T5) (ba := ⟨0, 0⟩) okC_none okL_none (by rw [← symA_std]; exact v0N_0 stdF (look fl) sZ sP sAt sE [] [] 0 0 (std_lssF (by decide)))).out (by simp))
/-! ### the law -/
theorem run5 (w0 g0 : PV) (hG : okG g0) (hW : w0 = .nils ∨ ∃ ws : List (List PV), w0 = .ro 1 ws ∧ ws.length ≤ maxLen ∧ ∀ e ∈ ws, ∃ w, e = [PV.str w]) :
    ∃ k hp' out', callN T5 k ⟨0, 0⟩ 5 [.p w0, .p g0] [] [] = some (.p (.bool true), hp', out') := by
  refine runs_of okC_none allL_ok (vf := vf5) rfl ?_
  rw [← symA_std]
  have e0 := words_split [] (fun p hp => by simp at hp) (by simp)
  have hE0 : sE [] = 0 := by unfold sE; rw [show ([] : List UInt8) = SP [] from rfl, e0]
  have hZ0 : sZ [] = true := by unfold sZ; rw [show ([] : List UInt8) = SP [] from rfl, e0]; rfl
  rcases hW with rfl | ⟨ws, rfl, hl, hw⟩
  · have h0 := allL_eq ((evS_to (T := T5) (ba := ⟨0, 0⟩) okC_none okL_none (by rw [← symA_std]; exact z0_0 stdF (look fl) sZ sP sAt sE [] [] [] [] [] [] g0 0 0 0 (std_lssF (by decide)))).out (by simp))
    rw [sem5e_0 stdF (look fl) sZ sP sAt sE L5 [] [] [] [] g0 0 0 0 0 0 [] [] h0 hZ0 (std_neqF hE0) (std_neqF rfl) (loop5n 0)]; rfl
  · obtain ⟨r, h1, ps, i, hok, h30, hr⟩ := loop5a ws g0 hG hl hw (0, []) ⟨fun p hp => by simp at hp, by simp, by simp⟩
    have h0 := allL_eq h1
    have hs := words_split ps hok h30
    have hE : sE (SP ps) = 0 := by unfold sE; rw [hs]
    have hP : sP (SP ps) = tkRows 0 ps := by unfold sP; rw [hs]
    cases ps with
    | nil =>
      rcases hr with rfl | ⟨w, rfl⟩
      · rw [sem5xN_0 stdF (look fl) sZ sP sAt sE L5 ws [] [] [] g0 i 0 0 (ws.length : Nat) 0 [] [] h0 hZ0 (std_neqF hE0) (std_neqF rfl) (loop5n 0)]; rfl
      · rw [sem5yN_0 stdF (look fl) sZ sP sAt sE L5 ws [] [] [] g0 i 0 0 (ws.length : Nat) 0 [] w h0 hZ0 (std_neqF hE0) (std_neqF rfl) (loop5n 0)]; rfl
    | cons p ps =>
      have hZ : sZ (SP (p :: ps)) = false := by unfold sZ; rw [hs]; rfl
      have hn : stdF .cmp .neq (Int.ofNat (stdF .rlen (sP (SP (p :: ps))))) (Int.ofNat (stdF .rlen (tsOf (p :: ps)))) = false := std_neqF (by
        rw [hP]
        show ((tkRows 0 (p :: ps)).length : Int) = ((tsOf (p :: ps)).length : Int)
        rw [tkRows_len]; unfold tsOf; rw [List.length_map])
      have hb := loop5b (p :: ps) h30
      rw [← hP] at hb
      rcases hr with rfl | ⟨w, rfl⟩
      · rw [sem5xO_0 stdF (look fl) sZ sP sAt sE L5 ws (tsOf (p :: ps)) [] (sP (SP (p :: ps))) g0 i _ _ (ws.length : Nat) 0 (SP (p :: ps)) [] h0 hZ (std_neqF hE) hn hb]; rfl
      · rw [sem5yO_0 stdF (look fl) sZ sP sAt sE L5 ws (tsOf (p :: ps)) [] (sP (SP (p :: ps))) g0 i _ _ (ws.length : Nat) 0 (SP (p :: ps)) w h0 hZ (std_neqF hE) hn hb]; rfl
theorem hrun5 : ∀ args, argsOk [(false, [Kd.sl [Kd.str]]), (false, [Kd.sl [Kd.int .i64]])] args → ∃ k hp' out', callN T5 k ⟨0, 0⟩ 5 args [] [] = some (.p (.bool true), hp', out') := by
  intro args h
  obtain ⟨v0, r0, rfl, g0, h⟩ := argsOk_cons h
  obtain ⟨v1, r1, rfl, g1, h⟩ := argsOk_cons h
  obtain rfl := argsOk_nil h
  obtain ⟨c0, rfl, q0⟩ := argOk_one g0
  obtain ⟨c1, rfl, q1⟩ := argOk_one g1
  refine run5 c0 c1 ?_ ?_
  · rcases kd1_sl q1 with rfl | ⟨es, rfl, hl, hA⟩
    · exact .inl rfl
    · refine .inr ⟨es, rfl, hl, fun e he => ?_⟩
      obtain ⟨v, r, rfl, k1, k2⟩ := kdL_cons ((kdA_iff _ _).mp hA e he)
      obtain rfl := kdL_nil k2
      obtain ⟨n, rfl, _⟩ := kd1_int k1
      exact ⟨n, rfl⟩
  · rcases kd1_sl q0 with rfl | ⟨es, rfl, hl, hA⟩
    · exact .inl rfl
    · refine .inr ⟨es, rfl, hl, fun e he => ?_⟩
      obtain ⟨v, r, rfl, k1, k2⟩ := kdL_cons ((kdA_iff _ _).mp hA e he)
      obtain rfl := kdL_nil k2
      obtain ⟨s, rfl, _⟩ := kd1_str k1
      exact ⟨s, rfl⟩
end Go.Proofs.Ytkkainkhjimcmaa.L
