import Derived.Test.YtkkainkhjimcmaaVG
/-
For every input the law LexWords returns true, and each argument reads afterwards as it read before.
Shown by a machine with plain values whose runs are runs of the program. No further condition.
-/
import Derived.Test.YtkkainkhjimcmaaRows
import Derived.Test.YtkkainkhjimcmaaWrd2
import Derived.SizedLaws
import Derived.OpenShut
import Derived.ProofKit
import Derived.WalkKit
import Derived.ShutString
import Derived.ChangeOld
import Derived.Below
namespace Go.Proofs.Ytkkainkhjimcmaa.lexWords
open Go.ChangeShapes Go.WideShapes Go.ChangeAt Go.RowKit Go.VM
open Go.ChangeMaps (open_string shut_string)
set_option linter.unusedVariables false
theorem own : ownKnob Try.prog.godebug = none := by kernel_rfl
theorem laidOut : laidOutB Try.prog = true := by kernel_rfl
def ts : List TypeId := [35, 36]
theorem readable : (ts.all fun t => Try.prog.readableRec t && decide (t < Try.prog.types.size)) = true := by kernel_rfl
theorem params : Try.f5.params.toList = ts := by kernel_rfl
theorem kinds : mapO (argKd Try.prog) ts = some [(false, [Kd.sl [Kd.str]]), (false, [Kd.sl [Kd.int .i64]])] := by kernel_rfl
set_option maxRecDepth 100000 in
theorem lifted (os : Os) (started : os.Started) (H : Type) (enc : TypeId × Value → H) :
    ReturnsInHanded {} Try.checked os 5 .any (Rows.lexWordsSpec.pre6 enc Try.prog Try.f5 Rows.lexWordsRow.domain false) (Rows.lexWordsSpec.post enc Try.prog Try.f5 false true false false) := by
  refine returnsInHanded_of_change_sized (C := Try.checked) own started (by kernel_rfl) Try.func5
    (ChangeSpec.witness6 (enc := enc) (C := Try.checked) false ⟨#[], #[.slice none 0 0, .slice none 0 0], []⟩ 8 (by kernel_rfl) (by kernel_rfl) (by kernel_rfl) (by kernel_rfl)) ?_
  intro W base args ds gs before hval0 hW hcnd hsz0 _
  have hval : ∀ (j : Nat) t v, ts[j]? = some t → args.toList[j]? = some v → Value.okWide Try.prog W .any base t v := by
    intro j t v ht hv
    refine hval0 j t v ?_ (by simpa using hv)
    rw [← Array.getElem?_toList, params]
    exact ht
  have hW' := hW
  obtain ⟨p, q, hA0, hV, rfl, hfz, hnd⟩ := hW
  rw [params] at hA0
  obtain ⟨rfl, rfl⟩ := trodVars_none hV
  have hA1 := hA0
  unfold ts at hA1
  obtain ⟨v0, vs0, d0, ds0, p0, q0, hargs0, rfl, hp0, h0, r0⟩ := trodAll_cons hA1
  obtain ⟨v1, vs1, d1, ds1, p1, q1, hargs1, rfl, hp1, h1, r1⟩ := trodAll_cons r0
  obtain ⟨_, rfl, _⟩ := trodAll_nil r1
  refine (law_walk L.mixed (L.tabOk _) L.ps5w_ok kinds L.hrun5 hval hA0).mono fun e W' ⟨he, bel⟩ => ?_
  subst he
  have hB := below_all laidOut bel readable hA0
  rw [← params] at hB
  exact ⟨_, rfl, _, _, _, [], _, [], hW', trodAll_mk1 (shut_bool Try.underlying4 _), hB, rfl, bel.frame _, fun h => by cases h⟩
theorem over : Rows.lexWordsRow.holds Try.pinned (OpenSpec.ofChange Rows.lexWordsSpec) :=
  OpenClaim.holds_of_wide 5 Try.f5 rfl rfl rfl rfl rfl rfl rfl ⟨rfl, rfl, rfl, rfl, rfl⟩ rfl rfl rfl rfl rfl (by kernel_rfl) Try.func5 (by kernel_rfl)
    (of_decide_eq_true (by kernel_rfl)) (by unfold Func.isWrapper; first | (rw [if_pos (by decide +kernel)]; kernel_rfl) | (rw [if_neg (by decide +kernel)]; exact ⟨rfl, rfl⟩))
    (fun os started H enc _ => lifted os started H enc)
theorem proved : Rows.LexWordsSaid := over
#print axioms proved
end Go.Proofs.Ytkkainkhjimcmaa.lexWords
namespace Go.Proofs.Ytkkainkhjimcmaa
/-- The row, under a short name, for the claim. -/
theorem lexWords_holds : Rows.LexWordsSaid := lexWords.proved
end Go.Proofs.Ytkkainkhjimcmaa
