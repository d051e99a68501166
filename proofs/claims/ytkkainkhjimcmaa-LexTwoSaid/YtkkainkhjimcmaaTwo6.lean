import Derived.Test.YtkkainkhjimcmaaTwo5
/-
LexTwo: its law, if both texts have tokens.
-/
namespace Go.Proofs.Ytkkainkhjimcmaa.L
open Go Go.VM
set_option linter.unusedVariables false
set_option maxRecDepth 100000
set_option maxHeartbeats 4000000
theorem lp_out {b : VCode} {σ : St} {r : Ex × St} (h : @S.evS (symA stdF) T6 (fun _ _ _ _ _ => none) (fun _ _ => none) ⟨0, 0⟩ b σ = some r) (hr : r.1 ≠ .normal) : L6 b σ = some r := by
  rw [symA_std] at h
  obtain ⟨ex, σ'⟩ := r
  exact allL_eq ((evS_to okC_none okL_none h).out hr)
theorem row_tok {L : Nat} {e : List PV} (h : rowIn L e) : tokRow e := by
  obtain ⟨k, t, m, p, rfl, _⟩ := h
  exact ⟨k, t, m, p, rfl⟩
section
variable {a b : List UInt8} {q : Bool} (ha : a.length ≤ 1000) (hb : b.length ≤ 1000)
include ha hb
theorem okAB (he : sE a = 0) (he' : sE b = 0) : ∃ σ, E6 r4efg (st5 a b q) = some (.ret, σ) ∧ okFin σ := by
  obtain ⟨σ, h1, h2⟩ := call1 a b q
  have hj := (split_join a b ha hb).2.2 he he'
  have ra := sP_rows a (by omega)
  have rb := sP_rows b (by omega)
  have hez : stdF .cmp .neq (sE (stdF .scat (stdF .scat a [10]) b)) 0 = false := by rw [whole]; exact std_neqF hj.1
  have hP : sP (stdF .scat (stdF .scat a [10]) b) = sP a ++ (sP b).map (moved (a.length + 1)) := by rw [whole]; exact hj.2
  have hlen : stdF .cmp .neq (Int.ofNat (stdF .rlen (sP (stdF .scat (stdF .scat a [10]) b)))) (stdF .ar .add .i64 (Int.ofNat (stdF .rlen (sP a))) (Int.ofNat (stdF .rlen (sP b)))) = false := by
    rw [show stdF .ar .add .i64 (Int.ofNat (stdF .rlen (sP a))) (Int.ofNat (stdF .rlen (sP b))) = ((sP a).length : Int) + ((sP b).length : Int) from std_add (by show _ ≤ ((sP a).length : Int) + ((sP b).length : Int); omega) (by show ((sP a).length : Int) + ((sP b).length : Int) ≤ _; omega)]
    refine std_neqF ?_
    rw [hP]
    show (((sP a ++ (sP b).map (moved (a.length + 1))).length : Nat) : Int) = _
    rw [List.length_append, List.length_map]; omega
  have hyb : ∀ e ∈ sP b, ∃ (k : Int) (t : List UInt8) (m p : Int), e = [.int .i64 k, .str t, .int .i64 m, .int .i64 p] ∧ 0 ≤ p ∧ p ≤ 5000 := by
    intro e h
    obtain ⟨k, t, m, p, h1, h2, h3⟩ := rb.2 e h
    exact ⟨k, t, m, p, h1, h2, by omega⟩
  rcases h2 with ⟨hza, rfl⟩ | ⟨hza, rfl⟩
  · have pa := (sZ_iff a).mp hza
    rw [h1]
    cases hzb : sZ b with
    | true =>
      have pb := (sZ_iff b).mp hzb
      have hzc : sZ (stdF .scat (stdF .scat a [10]) b) = true := (sZ_iff _).mpr (by rw [hP, pa, pb]; rfl)
      exact ⟨_, (E6_seq (E6_of (s6Nt_0 stdF (look fl) sZ sP sAt sE L6 a b [] [] [] (sE a) 0 0 0 0 hzb))).trans ((E6_seq (E6_of (s7NNt_0 stdF (look fl) sZ sP sAt sE L6 a b [] [] [] (sE a) (sE b) 0 (sAt b) 0 (sfit1 (by omega) (by simp)) (sfit2 ha hb) hzc))).trans (E6_of (s9NNNc_0 stdF (look fl) sZ sP sAt sE L6 a b [] [] [] (sE a) (sE b) _ (sAt b) _ 0 0 (Int.ofNat 0) (Int.ofNat 0) (std_neqF he) (std_neqF he') hez rfl
        (lp_out (z9NN_0 stdF (look fl) sZ sP sAt sE (fun _ _ => none) a [] [] [] 0 (Int.ofNat 0) (std_lssF (by decide))) (by simp)) (lp_out (z10N_0 stdF (look fl) sZ sP sAt sE (fun _ _ => none) a [] [] [] 0 (Int.ofNat 0) (std_lssF (by decide))) (by simp))))), rfl, rfl⟩
    | false =>
      have hzc : sZ (stdF .scat (stdF .scat a [10]) b) = false := by
        cases h : sZ (stdF .scat (stdF .scat a [10]) b) with
        | false => rfl
        | true =>
          have := (sZ_iff _).mp h
          rw [hP] at this
          have : sP b = [] := by simpa using (List.append_eq_nil_iff.mp this).2
          rw [(sZ_iff b).mpr this] at hzb; exact Bool.noConfusion hzb
      rw [pa] at hlen
      exact ⟨_, (E6_seq (E6_of (s6Nf_0 stdF (look fl) sZ sP sAt sE L6 a b [] [] [] (sE a) 0 0 0 0 hzb))).trans ((E6_seq (E6_of (s7NOf_0 stdF (look fl) sZ sP sAt sE L6 a b [] (sP b) [] (sE a) (sE b) 0 (sAt b) 0 (sfit1 (by omega) (by simp)) (sfit2 ha hb) hzc))).trans (E6_of (s9NOOc_0 stdF (look fl) sZ sP sAt sE L6 a b [] (sP b) _ (sE a) (sE b) _ (sAt b) _ (Int.ofNat (sP b).length) 0 (Int.ofNat (sP b).length) (Int.ofNat 0) (std_neqF he) (std_neqF he') hez hlen
        (allL_eq (loop4yN a [] (sP b) _ (by rw [hP, pa]) hyb (by omega) (by simp) (by omega))) (lp_out (z10O_0 stdF (look fl) sZ sP sAt sE (fun _ _ => none) a [] [] _ 0 (Int.ofNat 0) (std_lssF (by decide))) (by simp))))), rfl, rfl⟩
  · rw [h1]
    have hzc : sZ (stdF .scat (stdF .scat a [10]) b) = false := by
      cases h : sZ (stdF .scat (stdF .scat a [10]) b) with
      | false => rfl
      | true =>
        have := (sZ_iff _).mp h
        rw [hP] at this
        rw [(sZ_iff a).mpr (List.append_eq_nil_iff.mp this).1] at hza; exact Bool.noConfusion hza
    have lx := allL_eq (loop4x (sP a) ((sP b).map (moved (a.length + 1))) (fun e h => row_tok (ra.2 e h)) (by omega))
    rw [← hP] at lx
    cases hzb : sZ b with
    | true =>
      have pb := (sZ_iff b).mp hzb
      rw [pb] at hlen
      exact ⟨_, (E6_seq (E6_of (s6Ot_0 stdF (look fl) sZ sP sAt sE L6 a b (sP a) [] [] (sE a) 0 0 0 0 hzb))).trans ((E6_seq (E6_of (s7ONf_0 stdF (look fl) sZ sP sAt sE L6 a b (sP a) [] [] (sE a) (sE b) 0 (sAt b) 0 (sfit1 (by omega) (by simp)) (sfit2 ha hb) hzc))).trans (E6_of (s9ONOc_0 stdF (look fl) sZ sP sAt sE L6 a b (sP a) [] _ (sE a) (sE b) _ (sAt b) _ 0 (Int.ofNat (sP a).length) (Int.ofNat 0) (Int.ofNat (sP a).length) (std_neqF he) (std_neqF he') hez hlen
        (lp_out (z9OO_0 stdF (look fl) sZ sP sAt sE (fun _ _ => none) a (sP a) [] _ 0 (Int.ofNat 0) (std_lssF (by decide))) (by simp)) lx))), rfl, rfl⟩
    | false =>
      exact ⟨_, (E6_seq (E6_of (s6Of_0 stdF (look fl) sZ sP sAt sE L6 a b (sP a) [] [] (sE a) 0 0 0 0 hzb))).trans ((E6_seq (E6_of (s7OOf_0 stdF (look fl) sZ sP sAt sE L6 a b (sP a) (sP b) [] (sE a) (sE b) 0 (sAt b) 0 (sfit1 (by omega) (by simp)) (sfit2 ha hb) hzc))).trans (E6_of (s9OOOc_0 stdF (look fl) sZ sP sAt sE L6 a b (sP a) (sP b) _ (sE a) (sE b) _ (sAt b) _ (Int.ofNat (sP b).length) (Int.ofNat (sP a).length) (Int.ofNat (sP b).length) (Int.ofNat (sP a).length) (std_neqF he) (std_neqF he') hez hlen
        (allL_eq (loop4yO a (sP a) (sP b) _ hP hyb (by omega) (by omega) (by omega))) lx))), rfl, rfl⟩
end
theorem run4 (a b : List UInt8) : ∃ k hp' out', callN T6 k ⟨0, 0⟩ 4 [.p (.str a), .p (.str b)] [] [] = some (.p (.bool true), hp', out') := by
  obtain ⟨q, h1⟩ := cuts a b
  have ha := cut1_le a
  have hb := cut1_le b
  have main : ∃ σ, E6 r4efg (st5 (cut1 a) (cut1 b) q) = some (.ret, σ) ∧ okFin σ := by
    by_cases he : sE (cut1 a) = 0
    · by_cases he' : sE (cut1 b) = 0
      · exact okAB ha hb he he'
      · exact errB ha hb he he'
    · exact errA ha hb he
  obtain ⟨σ, h2, h3, h4⟩ := main
  have h5 : E6 vf4.body (VM.start vf4 [.p (.str a), .p (.str b)] [] []) = some (.ret, σ) := h1.trans h2
  refine runs_of okC_none allL_ok (vf := vf4) rfl ?_
  have e : @S.fnS stdA T6 (fun _ _ _ _ _ => none) L6 ⟨0, 0⟩ vf4 [.p (.str a), .p (.str b)] [] [] = (@S.finish stdA vf4 σ).map fun r => (r, σ.out) := by
    unfold S.fnS
    rw [show @S.evS stdA T6 (fun _ _ _ _ _ => none) L6 ⟨0, 0⟩ vf4.body (VM.start vf4 [.p (.str a), .p (.str b)] [] []) = some (.ret, σ) from h5]
    rfl
  rw [e, h4]
  cases hf : @S.finish stdA vf4 σ with
  | none => rw [hf] at h3; simp at h3
  | some r => rw [hf] at h3; simp only [Option.map_some, Option.some.injEq] at h3 ⊢; rw [h3]
theorem hrun4 : ∀ args, argsOk [(false, [Kd.str]), (false, [Kd.str])] args → ∃ k hp' out', callN T6 k ⟨0, 0⟩ 4 args [] [] = some (.p (.bool true), hp', out') := by
  intro args h
  obtain ⟨v0, r0, rfl, g0, h⟩ := argsOk_cons h
  obtain ⟨v1, r1, rfl, g1, h⟩ := argsOk_cons h
  obtain rfl := argsOk_nil h
  obtain ⟨c0, rfl, q0⟩ := argOk_one g0
  obtain ⟨c1, rfl, q1⟩ := argOk_one g1
  obtain ⟨a0, rfl, _⟩ := kd1_str q0
  obtain ⟨a1, rfl, _⟩ := kd1_str q1
  exact run4 a0 a1
end Go.Proofs.Ytkkainkhjimcmaa.L
