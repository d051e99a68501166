import Derived.Test.YtkkainkhjimcmaaTwo3
/-
LexTwo: its law, whole.
-/
namespace Go.Proofs.Ytkkainkhjimcmaa.L
open Go Go.VM
set_option linter.unusedVariables false
set_option maxRecDepth 100000
set_option maxHeartbeats 4000000
abbrev T6 : Tab := T (ps6 sZ sP sAt sE)
noncomputable abbrev L6 : VCode → St → Option (Ex × St) := allL T6 ⟨0, 0⟩
noncomputable def E6 (v : VCode) (σ : St) : Option (Ex × St) := @S.evS stdA T6 (fun _ _ _ _ _ => none) L6 ⟨0, 0⟩ v σ
theorem E6_seq {x y : VCode} {σ σ' : St} (h : E6 x σ = some (.normal, σ')) : E6 (.seq x y) σ = E6 y σ' := by
  have e : E6 (.seq x y) σ = (match E6 x σ with | some (.normal, σ') => E6 y σ' | r => r) := rfl
  rw [e, h]
def cut1 (a : List UInt8) : List UInt8 := if 1000 < a.length then a.take 1000 else a
theorem cut1_le (a : List UInt8) : (cut1 a).length ≤ 1000 := by
  unfold cut1
  split
  · rw [List.length_take]; omega
  · omega
def st5 (a b : List UInt8) (q : Bool) : St := { env := [(0, SV.p (PV.str a)), (1, SV.p (PV.str b))] ++ (if q then [(25, SV.p (PV.bool false))] else []), fr := [(15, []), (17, [])], hp := [], out := [] }
theorem cuts (a b : List UInt8) : ∃ q, E6 vf4.body (VM.start vf4 [.p (.str a), .p (.str b)] [] []) = E6 (.seq r4e (.seq r4g (.seq r4h r4i))) (st5 (cut1 a) (cut1 b) q) := by
  show ∃ q, E6 (.seq r4a (.seq r4b (.seq r4c (.seq r4e (.seq r4g (.seq r4h r4i)))))) _ = _
  have h1 : E6 r4a (VM.start vf4 [.p (.str a), .p (.str b)] [] []) = some (Ex.normal, { env := [(0, SV.p (PV.str a)), (1, SV.p (PV.str b))], fr := [(15, []), (17, [])], hp := [], out := [] }) := by
    unfold E6; rw [← symA_std]; exact s4a_0 stdF (look fl) sZ sP sAt sE L6 a b
  rw [E6_seq h1]
  have hm : ∀ c : List UInt8, 1000 < c.length → stdF .le (stdF .toN 1000) (stdF .slen c) = true := fun c h => std_leT (by show 1000 ≤ c.length; omega)
  have hg : ∀ c : List UInt8, 1000 < c.length → stdF .cmp .gtr (Int.ofNat (stdF .slen c)) 1000 = true := fun c h => std_gtrT (by show (1000 : Int) < (c.length : Int); omega)
  have hf : ∀ c : List UInt8, ¬ 1000 < c.length → stdF .cmp .gtr (Int.ofNat (stdF .slen c)) 1000 = false := fun c h => std_gtrF (by show ¬ ((1000 : Int) < (c.length : Int)); omega)
  by_cases ha : 1000 < a.length
  · have ea : cut1 a = a.take 1000 := by unfold cut1; rw [if_pos ha]
    have h2 : E6 r4b { env := [(0, SV.p (PV.str a)), (1, SV.p (PV.str b))], fr := [(15, []), (17, [])], hp := [], out := [] } = some (Ex.normal, { env := [(0, SV.p (PV.str (a.take 1000))), (1, SV.p (PV.str b))], fr := [(15, []), (17, [])], hp := [], out := [] }) := by
      unfold E6; rw [← symA_std]; exact s4b_1 stdF (look fl) sZ sP sAt sE L6 a b (hg a ha) rfl rfl (hm a ha)
    rw [E6_seq h2, ea]
    by_cases hb : 1000 < b.length
    · have h3 : E6 r4c { env := [(0, SV.p (PV.str (a.take 1000))), (1, SV.p (PV.str b))], fr := [(15, []), (17, [])], hp := [], out := [] } = some (Ex.normal, st5 (a.take 1000) (cut1 b) false) := by
        unfold E6; rw [← symA_std]; unfold cut1; rw [if_pos hb]; exact s4c_1 stdF (look fl) sZ sP sAt sE L6 (a.take 1000) b (hg b hb) rfl rfl (hm b hb)
      exact ⟨false, by rw [E6_seq h3]⟩
    · have h3 : E6 r4c { env := [(0, SV.p (PV.str (a.take 1000))), (1, SV.p (PV.str b))], fr := [(15, []), (17, [])], hp := [], out := [] } = some (Ex.normal, st5 (a.take 1000) (cut1 b) true) := by
        unfold E6; rw [← symA_std]; unfold cut1; rw [if_neg hb]; exact s4c_0 stdF (look fl) sZ sP sAt sE L6 (a.take 1000) b (hf b hb)
      exact ⟨true, by rw [E6_seq h3]⟩
  · have ea : cut1 a = a := by unfold cut1; rw [if_neg ha]
    have h2 : E6 r4b { env := [(0, SV.p (PV.str a)), (1, SV.p (PV.str b))], fr := [(15, []), (17, [])], hp := [], out := [] } = some (Ex.normal, { env := [(0, SV.p (PV.str a)), (1, SV.p (PV.str b)), (20, SV.p (PV.bool false))], fr := [(15, []), (17, [])], hp := [], out := [] }) := by
      unfold E6; rw [← symA_std]; exact s4b_0 stdF (look fl) sZ sP sAt sE L6 a b (hf a ha)
    rw [E6_seq h2, ea]
    by_cases hb : 1000 < b.length
    · have h3 : E6 r4c { env := [(0, SV.p (PV.str a)), (1, SV.p (PV.str b)), (20, SV.p (PV.bool false))], fr := [(15, []), (17, [])], hp := [], out := [] } = some (Ex.normal, st5 a (cut1 b) false) := by
        unfold E6; rw [← symA_std]; unfold cut1; rw [if_pos hb]; exact s4d_1 stdF (look fl) sZ sP sAt sE L6 a b (hg b hb) rfl rfl (hm b hb)
      exact ⟨false, by rw [E6_seq h3]⟩
    · have h3 : E6 r4c { env := [(0, SV.p (PV.str a)), (1, SV.p (PV.str b)), (20, SV.p (PV.bool false))], fr := [(15, []), (17, [])], hp := [], out := [] } = some (Ex.normal, st5 a (cut1 b) true) := by
        unfold E6; rw [← symA_std]; unfold cut1; rw [if_neg hb]; exact s4d_0 stdF (look fl) sZ sP sAt sE L6 a b (hf b hb)
      exact ⟨true, by rw [E6_seq h3]⟩
end Go.Proofs.Ytkkainkhjimcmaa.L
