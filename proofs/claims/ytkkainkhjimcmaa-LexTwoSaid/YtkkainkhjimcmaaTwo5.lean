import Derived.Test.YtkkainkhjimcmaaTwo4
/-
LexTwo: its law, behind the cuts.
-/
namespace Go.Proofs.Ytkkainkhjimcmaa.L
open Go Go.VM
set_option linter.unusedVariables false
set_option maxRecDepth 100000
set_option maxHeartbeats 4000000
theorem E6_of {v : VCode} {σ : St} {r : Ex × St} (h : @S.evS (symA stdF) T6 (fun _ _ _ _ _ => none) L6 ⟨0, 0⟩ v σ = some r) : E6 v σ = some r := by
  unfold E6; rw [← symA_std]; exact h
/-- a last state that says true -/
def okFin (σ : St) : Prop := (@S.finish stdA vf4 σ).map (·.1) = some (.p (.bool true)) ∧ σ.out = []
def r4efg : VCode := .seq r4e (.seq r4g (.seq r4h r4i))
/-- the first call -/
theorem call1 (a b : List UInt8) (q : Bool) : ∃ σ, E6 r4efg (st5 a b q) = E6 (.seq r4g (.seq r4h r4i)) σ ∧
    ((sZ a = true ∧ σ = { env := [(0, SV.p (PV.str a)), (1, SV.p (PV.str b)), (5, SV.p PV.nils), (7, SV.p (PV.int IntKind.i64 (sE a))), (31, SV.p PV.nils), (33, SV.p (PV.int IntKind.i64 (sE a)))], fr := [(15, []), (17, [])], hp := [], out := [] }) ∨
     (sZ a = false ∧ σ = { env := [(0, SV.p (PV.str a)), (1, SV.p (PV.str b)), (5, SV.own 4 (sP a)), (7, SV.p (PV.int IntKind.i64 (sE a))), (31, SV.undef), (33, SV.p (PV.int IntKind.i64 (sE a)))], fr := [(15, []), (17, [])], hp := [], out := [] })) := by
  cases hz : sZ a with
  | true =>
    refine ⟨_, ?_, .inl ⟨rfl, rfl⟩⟩
    cases q
    · exact E6_seq (E6_of (s5pt_0 stdF (look fl) sZ sP sAt sE L6 a b hz))
    · exact E6_seq (E6_of (s5qt_0 stdF (look fl) sZ sP sAt sE L6 a b hz))
  | false =>
    refine ⟨_, ?_, .inr ⟨rfl, rfl⟩⟩
    cases q
    · exact E6_seq (E6_of (s5pf_0 stdF (look fl) sZ sP sAt sE L6 a b hz))
    · exact E6_seq (E6_of (s5qf_0 stdF (look fl) sZ sP sAt sE L6 a b hz))
theorem whole (a b : List UInt8) : stdF .scat (stdF .scat a [10]) b = a ++ 10 :: b := by
  show (a ++ [10]) ++ b = a ++ 10 :: b
  rw [List.append_assoc]; rfl
theorem sfit1 {a b : List UInt8} (ha : a.length ≤ 1001) (hb : b.length ≤ 1000) : stdF .sfit a b = true := decide_eq_true (by omega)
theorem sfit2 {a b : List UInt8} (ha : a.length ≤ 1000) (hb : b.length ≤ 1000) : stdF .sfit (stdF .scat a [10]) b = true := sfit1 (by show (a ++ [10]).length ≤ 1001; rw [List.length_append]; simp; omega) hb
section
variable {a b : List UInt8} {q : Bool} (ha : a.length ≤ 1000) (hb : b.length ≤ 1000)
include ha hb
theorem errA (he : sE a ≠ 0) : ∃ σ, E6 r4efg (st5 a b q) = some (.ret, σ) ∧ okFin σ := by
  obtain ⟨σ, h1, h2⟩ := call1 a b q
  have hj := (split_join a b ha hb).1 he
  have hza : sZ a = true := (sZ_iff a).mpr (sP_nil a (by omega) he)
  have hzc : sZ (stdF .scat (stdF .scat a [10]) b) = true := by rw [whole]; exact (sZ_iff _).mpr hj.2
  have hec : stdF .cmp .eql (sE (stdF .scat (stdF .scat a [10]) b)) (sE a) = true := by rw [whole]; exact std_eqlT hj.1
  rcases h2 with ⟨_, rfl⟩ | ⟨h, _⟩
  · rw [h1]
    cases hz : sZ b with
    | true => exact ⟨_, (E6_seq (E6_of (s6Nt_0 stdF (look fl) sZ sP sAt sE L6 a b [] [] [] (sE a) 0 0 0 0 hz))).trans ((E6_seq (E6_of (s7NNt_0 stdF (look fl) sZ sP sAt sE L6 a b [] [] [] (sE a) (sE b) 0 (sAt b) 0 (sfit1 (by omega) (by simp)) (sfit2 ha hb) hzc))).trans (E6_of (s8NNNa_0 stdF (look fl) sZ sP sAt sE L6 a b [] [] [] (sE a) (sE b) _ (sAt b) _ (std_neqT he) hec rfl))), rfl, rfl⟩
    | false => exact ⟨_, (E6_seq (E6_of (s6Nf_0 stdF (look fl) sZ sP sAt sE L6 a b [] [] [] (sE a) 0 0 0 0 hz))).trans ((E6_seq (E6_of (s7NOt_0 stdF (look fl) sZ sP sAt sE L6 a b [] (sP b) [] (sE a) (sE b) 0 (sAt b) 0 (sfit1 (by omega) (by simp)) (sfit2 ha hb) hzc))).trans (E6_of (s8NONa_0 stdF (look fl) sZ sP sAt sE L6 a b [] (sP b) [] (sE a) (sE b) _ (sAt b) _ (std_neqT he) hec rfl))), rfl, rfl⟩
  · rw [hza] at h; exact Bool.noConfusion h
theorem errB (he : sE a = 0) (he' : sE b ≠ 0) : ∃ σ, E6 r4efg (st5 a b q) = some (.ret, σ) ∧ okFin σ := by
  obtain ⟨σ, h1, h2⟩ := call1 a b q
  have hj := (split_join a b ha hb).2.1 he he'
  have hl := sAt_le b (by omega)
  have hzb : sZ b = true := (sZ_iff b).mpr (sP_nil b (by omega) he')
  have hzc : sZ (stdF .scat (stdF .scat a [10]) b) = true := by rw [whole]; exact (sZ_iff _).mpr hj.2.2
  have hec : stdF .cmp .eql (sE (stdF .scat (stdF .scat a [10]) b)) (sE b) = true := by rw [whole]; exact std_eqlT hj.1
  have hat : stdF .cmp .eql (sAt (stdF .scat (stdF .scat a [10]) b)) (stdF .ar .add .i64 (stdF .ar .add .i64 (sAt b) (Int.ofNat (stdF .slen a))) 1) = true := by
    rw [whole, show stdF .ar .add .i64 (sAt b) (Int.ofNat (stdF .slen a)) = sAt b + (a.length : Int) from std_add (by show _ ≤ sAt b + (a.length : Int); omega) (by show sAt b + (a.length : Int) ≤ _; omega), std_add (by omega) (by omega)]
    exact std_eqlT (by rw [hj.2.1]; omega)
  rcases h2 with ⟨_, rfl⟩ | ⟨_, rfl⟩
  · rw [h1]
    exact ⟨_, (E6_seq (E6_of (s6Nt_0 stdF (look fl) sZ sP sAt sE L6 a b [] [] [] (sE a) 0 0 0 0 hzb))).trans ((E6_seq (E6_of (s7NNt_0 stdF (look fl) sZ sP sAt sE L6 a b [] [] [] (sE a) (sE b) 0 (sAt b) 0 (sfit1 (by omega) (by simp)) (sfit2 ha hb) hzc))).trans (E6_of (s8NNNb_0 stdF (look fl) sZ sP sAt sE L6 a b [] [] [] (sE a) (sE b) _ (sAt b) _ (std_neqF he) (std_neqT he') hec hat))), rfl, rfl⟩
  · rw [h1]
    exact ⟨_, (E6_seq (E6_of (s6Ot_0 stdF (look fl) sZ sP sAt sE L6 a b (sP a) [] [] (sE a) 0 0 0 0 hzb))).trans ((E6_seq (E6_of (s7ONt_0 stdF (look fl) sZ sP sAt sE L6 a b (sP a) [] [] (sE a) (sE b) 0 (sAt b) 0 (sfit1 (by omega) (by simp)) (sfit2 ha hb) hzc))).trans (E6_of (s8ONNb_0 stdF (look fl) sZ sP sAt sE L6 a b (sP a) [] [] (sE a) (sE b) _ (sAt b) _ (std_neqF he) (std_neqT he') hec hat))), rfl, rfl⟩
end
end Go.Proofs.Ytkkainkhjimcmaa.L
