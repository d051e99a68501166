import Derived.Test.YtkkainkhjimcmaaVD
/-
V: calls: what a callee finds, what it leaves.
-/
namespace Go.VM
open Go
set_option linter.unusedVariables false
set_option linter.unusedSimpArgs false

/-- memory's part of the relation, as a callee finds it -/
def Mrel (ba : Ba) (hp : List Obj) (out : List (List (Nat × Obj))) (g : Gh) (W : World) : Prop := Rel ba ⟨[], [], hp, out⟩ g #[] W

def ArgsR (g : Gh) (W : World) (args : List SV) (xs : Array Value) : Prop := ∀ k, SR ⟨g, W, #[], []⟩ (slotO k) (args.getD k .undef) (xs.getD k undef)

/-- what the machine says of a call -/
def CallSpec (P : Program) (ba : Ba) (f : Nat) (args : List SV) (hp : List Obj) (out : List (List (Nat × Obj))) (r : SV × List Obj × List (List (Nat × Obj))) : Prop :=
  ∀ g W xs, Mrel ba hp out g W → ArgsR g W args xs → xs.size = args.length → Calls P f xs W fun e W' =>
    ∃ x g', e = .returned x ∧ Mrel ba r.2.1 r.2.2 g' W' ∧ SR ⟨g', W', #[], []⟩ resO r.1 x ∧ Ext out.length g g' W W'

/-- the callee's ghost: what a caller's slot owns nobody may write meanwhile -/
def sloB : Option Owner → Bool
  | some (.cell (.sl _) _) => true
  | _ => false
def argN : Owner → Owner
  | .res (i :: π) => .cell (.sl i) π
  | o => o
def Gh.enter (g : Gh) (W : World) : Gh :=
  { g with own := fun b => if sloB (g.own b) then none else (g.own b).map argN
           Ψ := fun b => if sloB (g.own b) then cellsAt W b else g.Ψ b }

section
variable {P : Program} {ba : Ba} {σ : St} {g : Gh} {tmps : Array Value} {W : World}

theorem gle_enter (hr : Rel ba σ g tmps W) : GLe g (g.enter W) where
  stab b c h := by
    have := (hr.stab b c h).1
    simp [Gh.enter, this, sloB, h]
  perm b h := h

/-- owners that a callee sees as they are -/
def seen : Option Owner → Prop
  | none => True
  | some (.obj _) => True
  | some (.cell r _) => isSl r = false
  | some (.res _) => False

theorem fr_enter (hr : Rel ba σ g tmps W) (t t' : Array Value) (e e' : List (Nat × SV)) : Fr seen ⟨g, W, t, e⟩ ⟨g.enter W, W, t', e'⟩ where
  gle := gle_enter hr
  blk _ _ h := h
  keep b _ h := by
    refine ⟨rfl, ?_⟩
    simp only at h
    simp only [Gh.enter]
    cases ho : g.own b with
    | none => simp [sloB]
    | some o =>
      rw [ho] at h
      cases o with
      | obj r => simp [sloB, argN]
      | res π => simp [seen] at h
      | cell r π =>
        cases r with
        | sl k => simp [seen, isSl] at h
        | hp _ => simp [sloB, argN]
        | st _ _ => simp [sloB, argN]
  none := trivial

theorem obj_start {vf : VFun} {args : List SV} {hp : List Obj} {out : List (List (Nat × Obj))} {r : Root} (hs : isSl r = false) {ob : Obj} (hne : ob ≠ []) : (start vf args hp out).obj r = some ob → (⟨[], [], hp, out⟩ : St).obj r = some ob := by
  intro h
  cases r with
  | sl k => simp [isSl] at hs
  | hp i => exact h
  | st d k =>
    have hb : ∀ l : List Nat, getD [] (l.map fun k => (k, ([] : Obj))) k = [] := by
      intro l
      induction l with
      | nil => rfl
      | cons a r ih =>
        simp only [List.map_cons, getD]
        split
        · rfl
        · exact ih
    simp only [St.obj, start, hb] at h ⊢
    by_cases hd : d = out.length
    · rw [if_pos hd] at h
      simp only [Option.some.injEq] at h
      exact absurd h.symm hne
    · rw [if_neg hd] at h ⊢; exact h

/-- a callee finds memory as its caller left it -/
theorem enter_ok (hr : Rel ba σ g tmps W) : Mrel ba σ.hp (σ.out ++ [σ.fr]) (g.enter W) W where
  env k := by simp [getD, SR]
  mem r ob hs ho hne := by
    have ho' : σ.obj r = some ob := by
      cases r with
      | sl k => simp [isSl] at hs
      | hp i => exact ho
      | st d k =>
        simp only [St.obj, List.length_append, List.length_cons, List.length_nil] at ho ⊢
        split at ho
        · simp only [getD, Option.some.injEq] at ho; exact absurd ho.symm hne
        · rename_i hd
          by_cases he : d = σ.out.length
          · subst he
            rw [List.getElem?_append_right (Nat.le_refl _)] at ho
            simpa using ho
          · rw [if_neg he]
            by_cases hlt : d < σ.out.length
            · rw [List.getElem?_append_left hlt] at ho; exact ho
            · rw [List.getElem?_eq_none (by simp; omega)] at ho; simp at ho
    exact ObR.frame (fr_enter hr tmps #[] σ.env []) (fun π => hs) trivial (hr.mem r ob hs ho' hne)
  stab b c h := by
    simp only [Gh.enter] at h ⊢
    split at h
    · rename_i hb; rw [if_pos hb]; exact ⟨rfl, h⟩
    · rename_i hb
      rw [if_neg hb]
      obtain ⟨h1, h2⟩ := hr.stab b c h
      exact ⟨by rw [h1]; rfl, h2⟩
  alive b h := by
    obtain ⟨h1, h2⟩ := hr.alive b h
    simp [Gh.enter, h1, sloB, h2]
  perm b h := by
    obtain ⟨c, hc⟩ := hr.perm b h
    exact ⟨c, (gle_enter hr).stab b c hc⟩
  base := by have := hr.base; simp; omega
  hpIn := hr.hpIn
  stIn d k b h := by have := hr.stIn d k b h; simp; omega
  lt := hr.lt
  inj := hr.inj
  kind r b hs h := by
    rcases hr.kind r b hs h with e | e
    · left; simp [Gh.enter, e, sloB]
    · right; simp [Gh.enter, e, sloB, argN]
end
end Go.VM

/-
V: calls: back in the caller.
-/
namespace Go.VM
open Go
set_option linter.unusedVariables false
set_option linter.unusedSimpArgs false

/-- a change that keeps what is stable for ever, and some roots' blocks -/
structure FrT (okB : Root → Prop) (K : Option Owner → Option Owner → Prop) (cx cx' : Cx) : Prop where
  glp : GLp cx.g cx'.g
  blk : ∀ r b, okB r → cx.g.blk r = some b → cx'.g.blk r = some b
  keep : ∀ b o o', b < cx.W.heap.size → K o o' → cx.g.own b = o → cx'.W.heap[b]? = cx.W.heap[b]? ∧ cx'.g.own b = o'
  hd : ∀ pl x, okB pl.root → hdr cx pl = some x → hdr cx' pl = some x

def leadsC (okB : Root → Bool) : List SV → Bool
  | [] => true
  | .ptr pl :: r => pl.row.isNone && okB pl.root && leadsC okB r
  | _ => false

theorem SRs.capsT {okB : Root → Bool} {cx cx' : Cx} (hb : ∀ r b, okB r = true → cx.g.blk r = some b → cx'.g.blk r = some b) : ∀ {i : Nat} {v : List SV} {x : List Value} {o o' : List Nat → Option Owner}, leadsC okB v = true → SRs cx o i v x → SRs cx' o' i v x
  | _, [], [], _, _, _, _ => by simp [SRs]
  | i, v :: vs, x :: xs, o, o', hk, e => by
    cases v <;> simp only [leadsC, Bool.and_eq_true, Option.isNone_iff_eq_none, reduceCtorEq, Bool.false_eq_true] at hk
    obtain ⟨⟨h1, h2⟩, h3⟩ := hk
    simp only [SRs, SR, PtrR, h1] at e ⊢
    obtain ⟨⟨e1, b, e2, e3⟩, e4⟩ := e
    exact ⟨⟨e1, b, hb _ _ h2 e2, e3⟩, SRs.capsT hb h3 e4⟩
  | _, [], _ :: _, _, _, _, e => by simp [SRs] at e
  | _, _ :: _, [], _, _, _, e => by simp [SRs] at e

-- values that lead to such roots alone, and lend nothing
mutual
def leads (okB : Root → Bool) : SV → Bool
  | .p _ => true
  | .pagg _ => true
  | .own _ _ => true
  | .ptr pl => pl.row.isNone && okB pl.root
  | .nilp => true
  | .fn _ caps => leadsC okB caps
  | .nilf => true
  | .agg cs => leadsL okB cs
  | .tup cs => leadsL okB cs
  | .al pl _ _ _ => okB pl.root
  | .undef => true
  | _ => false
def leadsL (okB : Root → Bool) : List SV → Bool
  | [] => true
  | v :: r => leads okB v && leadsL okB r
end

mutual
theorem SR.frameT {okB : Root → Bool} {K : Option Owner → Option Owner → Prop} {cx cx' : Cx} (h : FrT (fun r => okB r = true) K cx cx') : ∀ {v : SV} {x : Value} {o o' : List Nat → Option Owner}, (∀ π, K (o π) (o' π)) → leads okB v = true → SR cx o v x → SR cx' o' v x
  | .p v, x, o, o', ho, hs, e => by simp only [SR] at e ⊢; exact PR.monoP h.glp _ _ e
  | .pagg cs, x, o, o', ho, hs, e => by simp only [SR] at e ⊢; obtain ⟨a, h1, h2⟩ := e; exact ⟨a, h1, PRs.monoP h.glp _ _ h2⟩
  | .own s es, x, o, o', ho, hs, e => by
    simp only [SR] at e ⊢
    obtain ⟨a, n, cap, h1, h2, h3, h4, h5, h6⟩ := e
    refine ⟨a, n, cap, h1, h2, h3, h4, h5, ?_⟩
    rcases h6 with h6 | ⟨c, T, fr, e1, e2, e3, e4, e5⟩
    · exact .inl h6
    · right
      obtain ⟨k1, k2⟩ := h.keep _ _ _ (lt_of_some e1) (ho []) e3
      exact ⟨c, T, fr, by rw [k1]; exact e1, e2, k2, e4, PRss.monoP h.glp _ _ e5⟩
  | .lent s es, x, o, o', ho, hs, e => by simp [leads] at hs
  | .al pl s lo n, x, o, o', ho, hs, e => by
    simp only [SR, leads] at e hs ⊢
    obtain ⟨h0, a, m, cap, b, cap', h1, h2⟩ := e
    exact ⟨h0, a, m, cap, b, cap', h.hd _ _ hs h1, h2⟩
  | .ptr pl, x, o, o', ho, hs, e => by
    simp only [leads, Bool.and_eq_true, Option.isNone_iff_eq_none] at hs
    simp only [SR, PtrR, hs.1] at e ⊢
    obtain ⟨h1, b, h2, h3⟩ := e
    exact ⟨h1, b, h.blk _ _ hs.2 h2, h3⟩
  | .cptr cs, x, o, o', ho, hs, e => by simp [leads] at hs
  | .nilp, x, o, o', ho, hs, e => by simpa [SR] using e
  | .fn f caps, x, o, o', ho, hs, e => by
    simp only [SR, leads] at e hs ⊢
    obtain ⟨a, h1, h2⟩ := e
    exact ⟨a, h1, SRs.capsT h.blk hs h2⟩
  | .nilf, x, o, o', ho, hs, e => by simpa [SR] using e
  | .undef, x, o, o', ho, hs, e => by simp [SR]
  | .agg cs, x, o, o', ho, hs, e => by
    simp only [SR, leads] at e hs ⊢
    obtain ⟨a, h1, h2⟩ := e
    exact ⟨a, h1, SRs.frameT h ho hs h2⟩
  | .tup cs, x, o, o', ho, hs, e => by
    simp only [SR, leads] at e hs ⊢
    obtain ⟨a, h1, h2⟩ := e
    exact ⟨a, h1, SRs.frameT h ho hs h2⟩
theorem SRs.frameT {okB : Root → Bool} {K : Option Owner → Option Owner → Prop} {cx cx' : Cx} (h : FrT (fun r => okB r = true) K cx cx') : ∀ {i : Nat} {v : List SV} {x : List Value} {o o' : List Nat → Option Owner}, (∀ π, K (o π) (o' π)) → leadsL okB v = true → SRs cx o i v x → SRs cx' o' i v x
  | _, [], [], _, _, _, _, _ => by simp [SRs]
  | i, v :: vs, x :: xs, o, o', ho, hs, e => by
    simp only [SRs, leadsL, Bool.and_eq_true] at e hs ⊢
    exact ⟨SR.frameT h (fun π => ho _) hs.1 e.1, SRs.frameT h ho hs.2 e.2⟩
  | _, [], _ :: _, _, _, _, _, e => by simp [SRs] at e
  | _, _ :: _, [], _, _, _, _, e => by simp [SRs] at e
end

theorem okCaps_leads {h : Bool} {d : Nat} {okB : Root → Bool} (hB : ∀ i, okB (.hp i) = true) (hS : h = false → ∀ e k, e ≤ d → okB (.st e k) = true) : ∀ {l : List SV}, okCell.okCaps h d l = true → leadsC okB l = true
  | [], _ => rfl
  | .ptr pl :: r, e => by
    simp only [okCell.okCaps, Bool.and_eq_true, Option.isNone_iff_eq_none] at e
    simp only [leadsC, e.1.1, Option.isNone_none, Bool.true_and, Bool.and_eq_true]
    refine ⟨?_, okCaps_leads hB hS e.2⟩
    have := e.1.2
    split at this
    · rename_i hr; rw [hr]; exact hB _
    · rename_i hr; rw [hr]; simp only [Bool.and_eq_true, Bool.not_eq_true', decide_eq_true_eq] at this; exact hS this.1 _ _ this.2
    · simp at this
  | .p _ :: _, e => by simp [okCell.okCaps] at e
  | .pagg _ :: _, e => by simp [okCell.okCaps] at e
  | .own _ _ :: _, e => by simp [okCell.okCaps] at e
  | .lent _ _ :: _, e => by simp [okCell.okCaps] at e
  | .al _ _ _ _ :: _, e => by simp [okCell.okCaps] at e
  | .cptr _ :: _, e => by simp [okCell.okCaps] at e
  | .nilp :: _, e => by simp [okCell.okCaps] at e
  | .fn _ _ :: _, e => by simp [okCell.okCaps] at e
  | .nilf :: _, e => by simp [okCell.okCaps] at e
  | .agg _ :: _, e => by simp [okCell.okCaps] at e
  | .tup _ :: _, e => by simp [okCell.okCaps] at e
  | .undef :: _, e => by simp [okCell.okCaps] at e

theorem okAt_leads {r : Root} {D : Nat} {okB : Root → Bool} (hB : ∀ i, okB (.hp i) = true) (hS : ∀ e k, e ≤ D → okB (.st e k) = true) (hr : ∀ d k, r = .st d k → d ≤ D) {v : SV} (e : okAt r v = true) : leads okB v = true := by
  have main : ∀ h d, (h = false → d ≤ D) → okCell h d v = true → leads okB v = true := by
    intro h d hd e
    cases v <;> simp only [okCell, Bool.false_eq_true] at e <;> simp only [leads]
    case ptr pl =>
      simp only [Bool.and_eq_true, Option.isNone_iff_eq_none] at e
      simp only [e.1, Option.isNone_none, Bool.true_and]
      have := e.2
      split at this
      · rename_i hr; rw [hr]; exact hB _
      · rename_i hr; rw [hr]; simp only [Bool.and_eq_true, Bool.not_eq_true', decide_eq_true_eq] at this; exact hS _ _ (Nat.le_trans this.2 (hd this.1))
      · simp at this
    case fn f c => exact okCaps_leads hB (fun hf e' k' he => hS e' k' (Nat.le_trans he (hd hf))) e
  unfold okAt at e
  split at e
  · rfl
  · split at e
    · exact main true 0 (by simp) e
    · rename_i d k; exact main false d (fun _ => hr d k rfl) e
    · simp at e
end Go.VM

/-
V: calls: back in the caller.
-/
namespace Go.VM
open Go
set_option linter.unusedVariables false
set_option linter.unusedSimpArgs false

/-- what a callee's slots owned at its end is nobody's -/
def deadN : Owner → Owner
  | .cell (.sl _) _ => .obj (.sl 0)
  | o => o
def Gh.leave (g g2 : Gh) (d : Nat) : Gh where
  blk r := match r with
    | .st e k => if e ≤ d then g2.blk (.st e k) else none
    | r => g2.blk r
  own b := if sloB (g.own b) then g.own b else (g2.own b).map deadN
  Ψ b := if sloB (g.own b) then none else g2.Ψ b
  Φ := g2.Φ

def okRoot (d : Nat) : Root → Bool
  | .hp _ => true
  | .st e _ => decide (e ≤ d)
  | .sl _ => false

/-- owners on either side of a return -/
def backK (o o' : Option Owner) : Prop := o ≠ none ∧ o' = o.map deadN

section
variable {P : Program} {ba : Ba} {σ : St} {g g2 : Gh} {tmps : Array Value} {W W2 : World}

theorem slo_fix {o : Option Owner} (h : sloB o = false) : o.map deadN = o := by
  cases o with
  | none => rfl
  | some o => cases o with
    | cell r π => cases r <;> simp [sloB, deadN] at h ⊢
    | _ => rfl

theorem leave_blk {d : Nat} {r : Root} (h : okRoot d r = true) : (g.leave g2 d).blk r = g2.blk r := by
  cases r with
  | sl k => simp [okRoot] at h
  | hp i => rfl
  | st e k => simp only [okRoot, decide_eq_true_eq] at h; simp only [Gh.leave]; rw [if_pos h]

theorem hdr_back {d : Nat} (e e' : List (Nat × SV)) (t t' : Array Value) : ∀ pl x, okRoot d pl.root = true → hdr ⟨g2, W2, t, e⟩ pl = some x → hdr ⟨g.leave g2 d, W2, t', e'⟩ pl = some x := by
  intro pl x h hh
  have hb := leave_blk (g := g) (g2 := g2) h
  cases hroot : pl.root with
  | sl k => rw [hroot] at h; simp [okRoot] at h
  | hp i | st e i =>
    all_goals
      rw [hroot] at hb
      simp only [hdr, hroot] at hh ⊢
      rw [hb]; exact hh

/-- a block that a caller's slot owns, at its callee's end -/
theorem slot_still (hr : Rel ba σ g tmps W) {D : Nat} (hx : Ext D (g.enter W) g2 W W2) {b : Nat} (hs : sloB (g.own b) = true) : b < W.heap.size ∧ g2.own b = none ∧ W2.heap[b]? = W.heap[b]? ∧ g2.Φ b = false := by
  have hlt : b < W.heap.size := by
    rcases Nat.lt_or_ge b W.heap.size with h | h
    · exact h
    · rw [(hr.alive b h).1] at hs; simp [sloB] at hs
  have ho : (g.enter W).own b = none := by simp [Gh.enter, hs]
  obtain ⟨h1, h2⟩ := hx.keep b hlt ho
  refine ⟨hlt, h1, h2, ?_⟩
  cases hp : g2.Φ b with
  | false => rfl
  | true =>
    rcases hx.fresh b hp with h | h | h
    · obtain ⟨c, hc⟩ := hr.perm b h
      rw [(hr.stab b c hc).1] at hs; simp [sloB] at hs
    · exact absurd ho h
    · omega

theorem frT_back (hr : Rel ba σ g tmps W) {D : Nat} (hx : Ext D (g.enter W) g2 W W2) (d : Nat) (e e' : List (Nat × SV)) (t t' : Array Value) : FrT (fun r => okRoot d r = true) backK ⟨g2, W2, t, e⟩ ⟨g.leave g2 d, W2, t', e'⟩ where
  glp b c h1 h2 := by
    refine ⟨h1, ?_⟩
    simp only [Gh.leave]
    rw [if_neg]
    · exact h2
    · intro hs
      have := (slot_still hr hx hs).2.2.2
      simp only at h1
      rw [h1] at this; simp at this
  blk r b h hb := by simp only at hb ⊢; rw [leave_blk h]; exact hb
  keep b o o' _ hK ho := by
    refine ⟨rfl, ?_⟩
    simp only at ho
    simp only [Gh.leave]
    by_cases hs : sloB (g.own b) = true
    · rw [if_pos hs]
      have := (slot_still hr hx hs).2.1
      rw [this] at ho
      subst ho
      exact absurd rfl hK.1
    · rw [if_neg hs, ho]; exact hK.2.symm
  hd := hdr_back e e' t t'
end
end Go.VM

/-
V: calls: back in the caller, whole.
-/
namespace Go.VM
open Go
set_option linter.unusedVariables false
set_option linter.unusedSimpArgs false

theorem okRetC_leads {hb d : Nat} : ∀ {l : List SV}, okMem.okCaps l = true → okRetL hb (d + 1) l = true → leadsC (okRoot d) l = true
  | [], _, _ => rfl
  | .ptr pl :: r, h, e => by
    simp only [okMem.okCaps, okRetL, okRet, Bool.and_eq_true] at h e
    simp only [leadsC, Bool.and_eq_true]
    refine ⟨⟨e.1.1, ?_⟩, okRetC_leads h.2 e.2⟩
    have := e.1.2
    cases hr : pl.root <;> rw [hr] at this <;> simp [okRoot] at this ⊢
    omega
  | .p _ :: _, e, _ => by simp [okMem.okCaps] at e
  | .pagg _ :: _, e, _ => by simp [okMem.okCaps] at e
  | .own _ _ :: _, e, _ => by simp [okMem.okCaps] at e
  | .lent _ _ :: _, e, _ => by simp [okMem.okCaps] at e
  | .al _ _ _ _ :: _, e, _ => by simp [okMem.okCaps] at e
  | .cptr _ :: _, e, _ => by simp [okMem.okCaps] at e
  | .nilp :: _, e, _ => by simp [okMem.okCaps] at e
  | .fn _ _ :: _, e, _ => by simp [okMem.okCaps] at e
  | .nilf :: _, e, _ => by simp [okMem.okCaps] at e
  | .agg _ :: _, e, _ => by simp [okMem.okCaps] at e
  | .tup _ :: _, e, _ => by simp [okMem.okCaps] at e
  | .undef :: _, e, _ => by simp [okMem.okCaps] at e

mutual
theorem okRet_leads {hb d : Nat} : ∀ {v : SV}, okRet hb (d + 1) v = true → leads (okRoot d) v = true
  | .p _, _ => rfl
  | .pagg _, _ => rfl
  | .own _ _, _ => rfl
  | .nilp, _ => rfl
  | .nilf, _ => rfl
  | .lent _ _, e => by simp [okRet] at e
  | .cptr _, e => by simp [okRet] at e
  | .undef, e => by simp [okRet] at e
  | .ptr pl, e => by
    simp only [okRet, leads, Bool.and_eq_true] at e ⊢
    refine ⟨e.1, ?_⟩
    have := e.2
    cases hr : pl.root <;> rw [hr] at this <;> simp [okRoot] at this ⊢
    omega
  | .al pl _ _ _, e => by
    simp only [okRet, leads, Bool.and_eq_true] at e ⊢
    have := e.2
    cases hr : pl.root <;> rw [hr] at this <;> simp [okRoot] at this ⊢
    omega
  | .fn _ c, e => by
    simp only [okRet, leads, Bool.and_eq_true] at e ⊢
    exact okRetC_leads e.1 e.2
  | .agg cs, e => by simp only [okRet, leads] at e ⊢; exact okRetL_leads e
  | .tup cs, e => by simp only [okRet, leads] at e ⊢; exact okRetL_leads e
theorem okRetL_leads {hb d : Nat} : ∀ {l : List SV}, okRetL hb (d + 1) l = true → leadsL (okRoot d) l = true
  | [], _ => rfl
  | v :: r, e => by
    simp only [okRetL, leadsL, Bool.and_eq_true] at e ⊢
    exact ⟨okRet_leads e.1, okRetL_leads e.2⟩
end
end Go.VM

/-
V: calls: back in the caller, whole.
-/
namespace Go.VM
open Go
set_option linter.unusedVariables false
set_option linter.unusedSimpArgs false

/-- the state behind a call -/
def backSt (ba : Ba) (σ : St) (hp' : List Obj) (out' : List (List (Nat × Obj))) (fr : List (Nat × Obj)) : St :=
  { env := mapE killMem σ.env, fr := fr, hp := σ.hp.take ba.hb ++ hp'.drop ba.hb, out := ((σ.out ++ [σ.fr]).take ba.sb ++ out'.drop ba.sb).dropLast }

theorem obj_all {σ : St} {d k : Nat} : σ.obj (.st d k) = ((σ.out ++ [σ.fr])[d]?).map (getD [] · k) := by
  simp only [St.obj]
  split
  · rename_i h; subst h
    rw [List.getElem?_append_right (Nat.le_refl _)]; simp
  · rename_i h
    by_cases hlt : d < σ.out.length
    · rw [List.getElem?_append_left hlt]
    · rw [List.getElem?_eq_none (by omega), List.getElem?_eq_none (by simp; omega)]

theorem obj_back {ba : Ba} {σ : St} {hp' : List Obj} {out' : List (List (Nat × Obj))} {fr : List (Nat × Obj)} (hb : ba.hb ≤ σ.hp.length) (sb : ba.sb ≤ σ.out.length)
    (hl : ((σ.out ++ [σ.fr]).take ba.sb ++ out'.drop ba.sb).getLast? = some fr) {r : Root} (hs : isSl r = false) :
    (backSt ba σ hp' out' fr).obj r = if writable ba r then (match r with | .hp i => hp'[i]? | .st d k => (out'[d]?).map (getD [] · k) | .sl _ => none) else σ.obj r := by
  have hsplit : ((σ.out ++ [σ.fr]).take ba.sb ++ out'.drop ba.sb).dropLast ++ [fr] = (σ.out ++ [σ.fr]).take ba.sb ++ out'.drop ba.sb := by
    obtain ⟨l, hl'⟩ := List.getLast?_eq_some_iff.1 hl
    rw [hl']; simp
  cases r with
  | sl k => simp [isSl] at hs
  | hp i =>
    have ht : (σ.hp.take ba.hb).length = ba.hb := by rw [List.length_take]; omega
    simp only [St.obj, backSt]
    by_cases h : ba.hb ≤ i
    · rw [if_pos (show writable ba (.hp i) = true by simpa [writable] using h), List.getElem?_append_right (by omega), ht, List.getElem?_drop]
      congr 1; omega
    · rw [if_neg (show ¬ writable ba (.hp i) = true by simpa [writable] using h), List.getElem?_append_left (by omega), List.getElem?_take, if_pos (by omega)]
  | st d k =>
    have ht : ((σ.out ++ [σ.fr]).take ba.sb).length = ba.sb := by rw [List.length_take]; simp; omega
    rw [obj_all]
    simp only [backSt, hsplit]
    by_cases h : ba.sb ≤ d
    · rw [if_pos (show writable ba (.st d k) = true by simpa [writable] using h), List.getElem?_append_right (by omega), ht, List.getElem?_drop]
      congr 2; omega
    · rw [if_neg (show ¬ writable ba (.st d k) = true by simpa [writable] using h), obj_all, List.getElem?_append_left (by omega), List.getElem?_take, if_pos (by omega)]
end Go.VM

/-
V: calls: back in the caller, whole.
-/
namespace Go.VM
open Go
set_option linter.unusedVariables false
set_option linter.unusedSimpArgs false

mutual
theorem killMem_standsR {cx : Cx} : ∀ {v : SV} {x : Value} {o : List Nat → Option Owner}, SR cx o v x → stands slRoot (fun r => !isSl r) (killMem v) = true
  | .p v, _, _, _ => by simp [killMem, stands]
  | .pagg cs, _, _, _ => by simp [killMem, stands]
  | .own s es, _, _, _ => by simp [killMem, stands]
  | .lent s es, _, _, _ => by simp [killMem, stands]
  | .al pl s lo n, _, _, _ => by
    simp only [killMem]
    cases h : pl.root <;> simp [stands, slRoot, h]
  | .ptr pl, x, o, e => by
    simp only [SR, PtrR] at e
    simp only [killMem]
    cases h : pl.root <;> cases h2 : pl.row <;> rw [h2] at e <;> simp [stands, slRoot, h, h2, isSl]
    rw [h] at e; simp [isSl] at e
  | .cptr cs, _, _, _ => by simp [killMem, stands]
  | .nilp, _, _, _ => by simp [killMem, stands]
  | .fn f c, x, o, e => by simp only [killMem, stands, SR] at e ⊢; obtain ⟨a, _, h⟩ := e; exact killMemL_standsR h
  | .nilf, _, _, _ => by simp [killMem, stands]
  | .undef, _, _, _ => by simp [killMem, stands]
  | .agg cs, x, o, e => by simp only [killMem, stands, SR] at e ⊢; obtain ⟨a, _, h⟩ := e; exact killMemL_standsR h
  | .tup cs, x, o, e => by simp only [killMem, stands, SR] at e ⊢; obtain ⟨a, _, h⟩ := e; exact killMemL_standsR h
theorem killMemL_standsR {cx : Cx} : ∀ {i : Nat} {v : List SV} {x : List Value} {o : List Nat → Option Owner}, SRs cx o i v x → standsL slRoot (fun r => !isSl r) (killMemL v) = true
  | _, [], [], _, _ => by simp [killMemL, standsL]
  | i, v :: vs, x :: xs, o, e => by simp only [SRs, killMemL, standsL, Bool.and_eq_true] at e ⊢; exact ⟨killMem_standsR e.1, killMemL_standsR e.2⟩
  | _, [], _ :: _, _, e => by simp [SRs] at e
  | _, _ :: _, [], _, e => by simp [SRs] at e
end

theorem okAt_noSl {r : Root} {v : SV} (e : okAt r v = true) : stands (fun _ => false) (fun r' => !isSl r') v = true := by
  unfold okAt at e
  split at e
  · rfl
  · split at e
    · exact okCell_stands (fun _ => rfl) (fun _ _ _ _ => rfl) e
    · exact okCell_stands (fun _ => rfl) (fun _ _ _ _ => rfl) e
    · simp at e

section
variable {P : Program} {ba : Ba} {σ : St} {g g2 : Gh} {tmps : Array Value} {W W2 : World}

theorem exit_ok (hr : Rel ba σ g tmps W) {hp' : List Obj} {out' : List (List (Nat × Obj))} {fr : List (Nat × Obj)} (hm : Mrel ba hp' out' g2 W2) (hx : Ext (σ.out.length + 1) (g.enter W) g2 W W2) (ho : out'.length = σ.out.length + 1)
    (hl : ((σ.out ++ [σ.fr]).take ba.sb ++ out'.drop ba.sb).getLast? = some fr) {v : SV} {x : Value} (hv : SR ⟨g2, W2, #[], []⟩ resO v x) (hok : leads (okRoot σ.out.length) v = true) :
    GoodE ba σ g tmps W v x (backSt ba σ hp' out' fr) (g.leave g2 σ.out.length) W2 := by
  have hF := frT_back hr hx σ.out.length [] (backSt ba σ hp' out' fr).env #[] tmps
  have hout : (backSt ba σ hp' out' fr).out.length = σ.out.length := by
    have := hr.base.2
    simp only [backSt, List.length_dropLast, List.length_append, List.length_take, List.length_drop, List.length_cons, List.length_nil, ho]
    omega
  have hgle : GLe g (g.leave g2 σ.out.length) := by
    refine ⟨fun b c h => ?_, fun b h => hx.perm b h⟩
    have hn := (hr.stab b c h).1
    have h1 : (g.enter W).Ψ b = some c := by simp [Gh.enter, hn, sloB, h]
    simp only [Gh.leave]
    rw [if_neg (by rw [hn]; simp [sloB])]
    exact hx.stab b c h1
  have hkeep : ∀ b, b < W.heap.size → (g.own b = none ∨ sloB (g.own b) = true) → W2.heap[b]? = W.heap[b]? ∧ (g.leave g2 σ.out.length).own b = g.own b := by
    intro b hlt h
    rcases h with h | h
    · have h1 : (g.enter W).own b = none := by simp [Gh.enter, h, sloB]
      obtain ⟨k1, k2⟩ := hx.keep b hlt h1
      exact ⟨k2, by simp [Gh.leave, h, sloB, k1]⟩
    · obtain ⟨_, _, k3, _⟩ := slot_still hr hx h
      exact ⟨k3, by simp [Gh.leave, h]⟩
  have hblk : ∀ r b, isSl r = false → g.blk r = some b → (g.leave g2 σ.out.length).blk r = some b := by
    intro r b hs h
    have h1 : g2.blk r = some b := by
      refine hx.blk r b ?_ h
      cases r with
      | sl k => simp [isSl] at hs
      | hp i => trivial
      | st d k => exact Nat.lt_succ_of_le (hr.stIn _ _ _ h)
    rw [leave_blk]
    · exact h1
    · cases r with
      | sl k => simp [isSl] at hs
      | hp i => rfl
      | st d k => simpa [okRoot] using hr.stIn _ _ _ h
  have hlen2 : (backSt ba σ hp' out' fr).hp.length = hp'.length := by
    have := hr.base.1
    have : ba.hb ≤ hp'.length := hm.base.1
    simp only [backSt, List.length_append, List.length_take, List.length_drop]; omega
  refine ⟨⟨fun k => ?_, fun r ob hs hob hne => ?_, fun b c h => ?_, fun b h => ?_, fun b h => ?_, ?_, ?_, ?_, ?_, ?_, ?_⟩, ?_, ?_, hout⟩
  · have he : (backSt ba σ hp' out' fr).env = mapE killMem σ.env := rfl
    rw [he, getD_mapE _ killMem_undef]
    refine SR.frameS (okH := slRoot) (okB := fun r => !isSl r) (K := fun o => o = none ∨ sloB o = true) (cx := ⟨g, W, tmps, σ.env⟩) ⟨hgle, fun r b h e => hblk r b (by simpa using h) e, hkeep, .inl rfl⟩ ?_ (fun π => .inr rfl) (killMem_standsR (hr.env k)) (killMem_less (hr.env k))
    intro pl x h hh
    cases hroot : pl.root with
    | sl j => simp only [hdr, hroot] at hh ⊢; rw [getD_mapE _ killMem_undef, isOwn_killMem]; exact hh
    | hp _ | st _ _ => rw [hroot] at h; simp [slRoot] at h
  · rw [obj_back hr.base.1 hr.base.2 hl hs] at hob
    split at hob
    · rename_i hw
      have hob' : (⟨[], [], hp', out'⟩ : St).obj r = some ob := by
        cases r with
        | sl k => simp [isSl] at hs
        | hp i => exact hob
        | st d k =>
          simp only at hob
          have hd : d < out'.length := by
            rcases Nat.lt_or_ge d out'.length with h | h
            · exact h
            · rw [List.getElem?_eq_none h] at hob; simp at hob
          simp only [St.obj]
          rw [if_neg (by omega)]; exact hob
      have hroot : okRoot σ.out.length r = true := by
        cases r with
        | sl k => simp [isSl] at hs
        | hp i => rfl
        | st d k =>
          simp only at hob
          have hd : d < out'.length := by
            rcases Nat.lt_or_ge d out'.length with h | h
            · exact h
            · rw [List.getElem?_eq_none h] at hob; simp at hob
          simp only [okRoot, decide_eq_true_eq]; omega
      obtain ⟨b, c, T, fr', h1, h2, h3, h4, h5, h6⟩ := hm.mem r ob hs hob' hne
      have hown : ∀ o : Owner, ownerOf ba r o = some o := fun o => by simp [ownerOf, hw]
      rw [hown] at h4
      obtain ⟨k1, k2⟩ := hF.keep b _ (some (.obj r)) (lt_of_some h2) ⟨by simp, by simp [deadN]⟩ h4
      refine ⟨b, c, T, fr', by rw [leave_blk hroot]; exact h1, h2, h3, by rw [hown]; exact k2, ?_, h6⟩
      refine SRs.frameT hF (fun π => ?_) ?_ h5
      · rw [hown]
        refine ⟨by simp, ?_⟩
        cases r with
        | sl k => simp [isSl] at hs
        | hp i => rfl
        | st d k => rfl
      · rw [List.all_eq_true] at h6
        have : ∀ l : List SV, (∀ v ∈ l, okAt r v = true) → leadsL (okRoot σ.out.length) l = true := by
          intro l
          induction l with
          | nil => intro _; rfl
          | cons a l ih =>
            intro h
            simp only [leadsL, Bool.and_eq_true]
            refine ⟨okAt_leads (D := σ.out.length) (fun _ => rfl) (fun e k he => by simpa [okRoot] using he) ?_ (h a (by simp)), ih fun v hv => h v (by simp [hv])⟩
            intro d k he
            subst he
            simpa [okRoot] using hroot
        exact this ob h6
    · rename_i hw
      obtain ⟨b, c, T, fr', h1, h2, h3, h4, h5, h6⟩ := hr.mem r ob hs hob hne
      have hown : ∀ o : Owner, ownerOf ba r o = none := fun o => by simp [ownerOf, hw]
      rw [hown] at h4
      obtain ⟨k1, k2⟩ := hkeep b (lt_of_some h2) (.inl h4)
      refine ⟨b, c, T, fr', hblk r b hs h1, by show W2.heap[b]? = _; rw [k1]; exact h2, h3, by rw [hown]; exact k2.trans h4, ?_, h6⟩
      refine SRs.frameS (okH := fun _ => false) (okB := fun r => !isSl r) (K := fun o => o = none ∨ sloB o = true) (cx := ⟨g, W, tmps, σ.env⟩) ⟨hgle, fun r b h e => hblk r b (by simpa using h) e, hkeep, .inl rfl⟩ (fun pl x h _ => by simp at h) (fun π => .inl (hown _)) ?_ h5
      rw [List.all_eq_true] at h6
      exact standsL_of fun v hv => okAt_noSl (h6 v hv)
  · simp only [Gh.leave] at h ⊢
    split at h
    · simp at h
    · rename_i hb
      rw [if_neg hb]
      obtain ⟨h1, h2⟩ := hm.stab b c h
      exact ⟨by rw [h1]; rfl, h2⟩
  · obtain ⟨h1, h2⟩ := hm.alive b h
    have hb : ¬ sloB (g.own b) = true := fun hb => by have := (slot_still hr hx hb).1; have := hx.size; omega
    simp [Gh.leave, hb, h1, h2]
  · obtain ⟨c, hc⟩ := hm.perm b h
    have hb : ¬ sloB (g.own b) = true := fun hb => by
      have h4 := (slot_still hr hx hb).2.2.2
      have h5 : g2.Φ b = true := h
      rw [h5] at h4; simp at h4
    exact ⟨c, by simp only [Gh.leave]; rw [if_neg hb]; exact hc⟩
  · rw [hlen2, hout]; exact ⟨hm.base.1, hr.base.2⟩
  · intro i b h; rw [hlen2]; exact hm.hpIn i b h
  · intro d k b h
    rw [hout]
    simp only [Gh.leave] at h
    split at h
    · assumption
    · simp at h
  · intro r b h
    refine hm.lt r b ?_
    cases r with
    | sl k => exact h
    | hp i => exact h
    | st d k =>
      simp only [Gh.leave] at h
      split at h
      · exact h
      · simp at h
  · have hsub : ∀ r b, (g.leave g2 σ.out.length).blk r = some b → g2.blk r = some b := by
      intro r b h
      cases r with
      | sl k => exact h
      | hp i => exact h
      | st d k =>
        simp only [Gh.leave] at h
        split at h
        · exact h
        · simp at h
    intro r r' b h h'
    exact hm.inj r r' b (hsub _ _ h) (hsub _ _ h')
  · intro r b hs h
    have h' : g2.blk r = some b := by
      cases r with
      | sl k => simp [isSl] at hs
      | hp i => exact h
      | st d k =>
        simp only [Gh.leave] at h
        split at h
        · exact h
        · simp at h
    have hns : sloB (g.own b) = false := by
      cases hsb : sloB (g.own b) with
      | false => rfl
      | true =>
        have hlt := (slot_still hr hx hsb).1
        rcases hx.newBlk r b h' with e | e
        · rcases hr.kind r b hs e with k | k
          · rw [k] at hsb; simp [sloB] at hsb
          · rw [k] at hsb; simp [sloB] at hsb
        · omega
    simp only [Gh.leave, hns, Bool.false_eq_true, if_false]
    rcases hm.kind r b hs h' with e | e
    · left; rw [e]; rfl
    · right; rw [e]; simp [deadN]
  · refine ⟨hx.size, fun b hlt hn => ?_, hgle.stab, hgle.perm, fun b h => ?_, fun r b ho h => ?_, fun r b h => ?_, hx.os, hx.tape, hx.output⟩
    · obtain ⟨k1, k2⟩ := hkeep b hlt (.inl hn)
      exact ⟨k2.trans hn, k1⟩
    · rcases hx.fresh b h with e | e | e
      · exact .inl e
      · right; left
        intro hn
        exact e (by simp [Gh.enter, hn, sloB])
      · exact .inr (.inr e)
    · refine hblk r b ?_ h
      cases r with
      | sl k => simp [oldRoot] at ho
      | hp i => rfl
      | st d k => rfl
    · refine hx.newBlk r b ?_
      cases r with
      | sl k => exact h
      | hp i => exact h
      | st d k =>
        simp only [Gh.leave] at h
        split at h
        · exact h
        · simp at h
  · exact SR.frameT hF (fun π => ⟨by simp [resO], by simp [resO, deadN]⟩) hok hv
end
end Go.VM

/-
V: a call's arguments, as the callee finds them.
-/
namespace Go.VM
open Go
set_option linter.unusedVariables false
set_option linter.unusedSimpArgs false

section
variable {P : Program} {ba : Ba} {σ : St} {g : Gh} {tmps : Array Value} {W : World}

theorem OwnR.nameD {cx : Cx} {f : Owner → Owner} {ow : Option Owner} {s : Nat} {es : List (List PV)} {x : Value} (h : OwnR cx ow s es x) (t : Array Value) (e : List (Nat × SV)) : OwnR ⟨cx.g.name f, cx.W, t, e⟩ (ow.map f) s es x := by
  obtain ⟨a, n, cap, h1, h2, h3, h4, h5, h6⟩ := h
  refine ⟨a, n, cap, h1, h2, h3, h4, h5, ?_⟩
  rcases h6 with h6 | ⟨c, T, fr, e1, e2, e3, e4, e5⟩
  · exact .inl h6
  · exact .inr ⟨c, T, fr, e1, e2, by simp only [Gh.name, e3], e4, PRss.mono (gle_name cx.g f) _ _ e5⟩

theorem moves_ok {a : Act} (mv : List Nat) : ∀ {ops : List Operand} {l : List Opd} {σ : St} {g : Gh} (i : Nat), Rel ba σ g a.tmps W → mapO opdOf ops = some l →
    ∃ f : Owner → Owner, (∀ r π, isSl r = false → f (.cell r π) = .cell r π ∧ f (.obj r) = .obj r) ∧ (∀ π, f (.res π) = .res π) ∧ Rel ba (moves σ i mv l).2 (g.name f) a.tmps W ∧
      ((moves σ i mv l).2.out = σ.out ∧ (moves σ i mv l).2.hp = σ.hp ∧ (moves σ i mv l).2.fr = σ.fr) ∧
      ∀ j v, (moves σ i mv l).1[j]? = some (some v) → ∃ s es y, v = .own s es ∧ ops[j]? = some y ∧ OwnR ⟨g.name f, W, #[], []⟩ (some (.res [i + j])) s es (a.eval y)
  | [], l, σ, g, i, hr, h => by
    simp [mapO] at h; subst h
    have hid : g.name (fun o => o) = g := by simp [Gh.name]
    refine ⟨fun o => o, fun _ _ _ => ⟨rfl, rfl⟩, fun _ => rfl, by rw [hid]; exact hr, ⟨rfl, rfl, rfl⟩, ?_⟩
    intro j v hj; simp [moves] at hj
  | y :: ys, l, σ, g, i, hr, h => by
    simp only [mapO, Option.bind_eq_some_iff, Option.map_eq_some_iff] at h
    obtain ⟨x, hx, r, hr', rfl⟩ := h
    simp only [moves]
    split
    · rename_i s es _ ht
      obtain ⟨f, f1, f2, f3, f4⟩ := takeS_ok hr hx (fun π => .res (i :: π))
      obtain ⟨f', g1, g2, g3, g4, g5⟩ := moves_ok mv (i + 1) f3 hr'
      obtain ⟨l1, l2, l3⟩ := leave_out (σ := σ) (source σ x) .undef
      refine ⟨fun o => f' (f o), fun r π hs => ?_, fun π => by simp only [f2, g2], by rw [← name_name]; exact g3, ⟨g4.1.trans l1, g4.2.1.trans l2, g4.2.2.trans l3⟩, ?_⟩
      · obtain ⟨a1, a2⟩ := f1 r π hs
        simp only [a1, a2]; exact g1 r π hs
      · intro j v hj
        cases j with
        | zero =>
          simp only [List.getElem?_cons_zero, Option.some.injEq] at hj
          subst hj
          refine ⟨s, es, y, rfl, by simp, ?_⟩
          rw [ht] at f4
          simp only [SR] at f4
          have := OwnR.nameD (f := f') f4 #[] []
          simp only [Option.map_some, g2] at this
          rw [← name_name]; exact this
        | succ j =>
          simp only [List.getElem?_cons_succ] at hj
          obtain ⟨s', es', y', e1, e2, e3⟩ := g5 j v hj
          refine ⟨s', es', y', e1, by simpa using e2, ?_⟩
          rw [← name_name, show i + (j + 1) = i + 1 + j by omega]; exact e3
    · obtain ⟨f', g1, g2, g3, g4, g5⟩ := moves_ok mv (i + 1) hr hr'
      refine ⟨f', g1, g2, g3, g4, ?_⟩
      intro j v hj
      cases j with
      | zero => simp at hj
      | succ j =>
        simp only [List.getElem?_cons_succ] at hj
        obtain ⟨s', es', y', e1, e2, e3⟩ := g5 j v hj
        exact ⟨s', es', y', e1, by simpa using e2, by rw [show i + (j + 1) = i + 1 + j by omega]; exact e3⟩

theorem hdr_enter (e e' : List (Nat × SV)) (t t' : Array Value) {pl : Place} (hs : isSl pl.root = false) {x : Value} (h : hdr ⟨g, W, t, e⟩ pl = some x) : hdr ⟨g.enter W, W, t', e'⟩ pl = some x := by
  cases hroot : pl.root with
  | sl k => rw [hroot] at hs; simp [isSl] at hs
  | hp i | st d i => all_goals simp only [hdr, hroot] at h ⊢; exact h

theorem own_enter (hr : Rel ba σ g tmps W) {t : Array Value} {e : List (Nat × SV)} {i s : Nat} {es : List (List PV)} {x : Value} (h : OwnR ⟨g, W, t, e⟩ (some (.res [i])) s es x) : OwnR ⟨g.enter W, W, #[], []⟩ (slotO i []) s es x := by
  obtain ⟨a, n, cap, h1, h2, h3, h4, h5, h6⟩ := h
  refine ⟨a, n, cap, h1, h2, h3, h4, h5, ?_⟩
  rcases h6 with h6 | ⟨c, T, fr, e1, e2, e3, e4, e5⟩
  · exact .inl h6
  · refine .inr ⟨c, T, fr, e1, e2, ?_, e4, PRss.mono (gle_enter hr) _ _ e5⟩
    simp only at e3
    simp [Gh.enter, e3, sloB, argN, slotO]

theorem caps_enter {cx cx' : Cx} (hb : ∀ r b, cx.g.blk r = some b → cx'.g.blk r = some b) : ∀ {i : Nat} {v : List SV} {x : List Value} {o o' : List Nat → Option Owner}, okMem.okCaps v = true → SRs cx o i v x → SRs cx' o' i v x
  | _, [], [], _, _, _, _ => by simp [SRs]
  | i, v :: vs, x :: xs, o, o', hk, e => by
    cases v <;> simp only [okMem.okCaps, Bool.and_eq_true, Option.isNone_iff_eq_none, reduceCtorEq, Bool.false_eq_true] at hk
    obtain ⟨⟨h1, h2⟩, h3⟩ := hk
    simp only [SRs, SR, PtrR, h1] at e ⊢
    obtain ⟨⟨e1, b, e2, e3⟩, e4⟩ := e
    exact ⟨⟨e1, b, hb _ _ e2, e3⟩, caps_enter hb h3 e4⟩
  | _, [], _ :: _, _, _, _, e => by simp [SRs] at e
  | _, _ :: _, [], _, _, _, e => by simp [SRs] at e

theorem lent_enter (hr : Rel ba σ g tmps W) {o : List Nat → Option Owner} {pl : Place} {s lo n : Nat} {x : Value} {z : Nat × List (List PV)} {es : List (List PV)} (hz : rdOwn σ pl = some z) (hs : z.1 = s) (he : sub z.2 lo n = some es)
    (h : SR ⟨g, W, tmps, σ.env⟩ o (.al pl s lo n) x) (g' : Gh) (hg : GLe g g') (hΨ : ∀ r π b, r = pl.root → (g.own b = none ∧ writable ba pl.root = false ∨ g.own b = some (.cell r π)) → g'.Ψ b = cellsAt W b) : LentR ⟨g', W, #[], []⟩ s es x := by
  obtain ⟨s', es'⟩ := z
  simp only at hs he; subst hs
  obtain ⟨hle, rfl⟩ := sub_some he
  simp only [SR, AlR] at h
  obtain ⟨hrow, a, m, cap, b, cap', hh, ha, h3, h4, rfl, h5, h6, h7⟩ := h
  obtain ⟨ow, ⟨a', n', cp, hx, e1, e2, e3, e4, e5⟩, how, _, hwr⟩ := hr.place hz hh
  simp only [Value.slice.injEq, Option.some.injEq] at hx
  obtain ⟨rfl, rfl, rfl⟩ := hx
  refine ⟨_, _, _, rfl, by simp; omega, h5, h6, ?_⟩
  rcases h7 with h7 | ⟨h8, h9, h10⟩
  · left; omega
  · by_cases hn : n = 0
    · exact .inl hn
    right
    rcases e5 with e5 | ⟨c, T, fr, e6, e7, e8, e9, e10⟩
    · omega
    refine ⟨(e4.drop lo).take n, c, ?_, ?_⟩
    · simp only at e8
      rw [h8]
      have hc : cellsAt W a.block = some c := cellsAt_iff.2 ⟨T, fr, e6⟩
      rw [← hc]
      rcases how with how | ⟨r, π, _, hrr, how, _⟩
      · refine hΨ pl.root [] _ rfl (.inl ⟨by rw [e8, how], ?_⟩)
        cases hw : writable ba pl.root with
        | false => rfl
        | true => exact absurd how (hwr hw)
      · exact hΨ r π _ hrr (.inr (by rw [e8, how]))
    · have := PRss.mono hg _ _ (PRss.take n (PRss.drop lo e4 e10))
      rw [List.drop_drop] at this
      rw [h9]; exact this

theorem argW_ok (hr : Rel ba σ g tmps W) {v v' : SV} {x : Value} {o o' : List Nat → Option Owner} (h : argW σ v = some v') (hv : SR ⟨g, W, tmps, σ.env⟩ o v x) : SR ⟨g.enter W, W, #[], []⟩ o' v' x := by
  unfold argW at h
  split at h
  · rename_i pl s lo n
    split at h
    · rename_i k hk
      simp only [Option.bind_eq_some_iff] at h
      obtain ⟨z, hz, h⟩ := h
      obtain ⟨hs, h⟩ := ite_some h
      simp only [Option.map_eq_some_iff] at h
      obtain ⟨es, he, rfl⟩ := h
      refine lent_enter hr hz hs he hv _ (gle_enter hr) ?_
      intro r π b hrr hb
      rw [hk] at hrr
      rcases hb with ⟨_, hb⟩ | hb
      · rw [hk] at hb; simp [writable] at hb
      · simp [Gh.enter, hb, hrr, sloB]
    · rename_i hk
      simp only [Option.some.injEq] at h; subst h
      simp only [SR, AlR] at hv ⊢
      obtain ⟨hrow, a, m, cap, b, cap', hh, hv⟩ := hv
      refine ⟨hrow, a, m, cap, b, cap', hdr_enter _ _ _ _ ?_ hh, hv⟩
      cases hroot : pl.root with
      | sl k => exact absurd hroot (hk k)
      | _ => rfl
  · rename_i pl
    split at h
    · simp at h
    · rename_i hk
      simp only [Option.some.injEq] at h; subst h
      simp only [SR, PtrR] at hv ⊢
      split at hv
      · exact hv
      · obtain ⟨a, m, cap, hh, hv⟩ := hv
        refine ⟨a, m, cap, hdr_enter _ _ _ _ ?_ hh, hv⟩
        cases hroot : pl.root with
        | sl k => exact absurd hroot (hk k)
        | _ => rfl
  · rename_i f caps
    obtain ⟨hc, h⟩ := ite_some h
    simp only [Option.some.injEq] at h; subst h
    simp only [SR] at hv ⊢
    obtain ⟨a, h1, h2⟩ := hv
    exact ⟨a, h1, caps_enter (cx := ⟨g, W, tmps, σ.env⟩) (cx' := ⟨g.enter W, W, #[], []⟩) (fun _ _ h => h) hc h2⟩
  · simp at h
  · simp at h
  · simp at h
  · rename_i h1 h2 h3 h4 h5 h6
    simp only [Option.some.injEq] at h; subst h
    cases v with
    | p v => simp only [SR] at hv ⊢; exact PR.mono (gle_enter hr) _ _ hv
    | pagg cs => simp only [SR] at hv ⊢; obtain ⟨a, e1, e2⟩ := hv; exact ⟨a, e1, PRs.mono (gle_enter hr) _ _ e2⟩
    | lent s es =>
      simp only [SR] at hv ⊢
      obtain ⟨a, n, cap, e1, e2, e3, e4, e5⟩ := hv
      refine ⟨a, n, cap, e1, e2, e3, e4, ?_⟩
      rcases e5 with e5 | ⟨e6, c, e7, e8⟩
      · exact .inl e5
      · exact .inr ⟨e6, c, (gle_enter hr).stab _ _ e7, PRss.mono (gle_enter hr) _ _ e8⟩
    | cptr cs =>
      simp only [SR] at hv ⊢
      obtain ⟨b, off, c, e1, e2, e3⟩ := hv
      exact ⟨b, off, c, e1, (gle_enter hr).stab _ _ e2, PRs.mono (gle_enter hr) _ _ e3⟩
    | nilp => simpa [SR] using hv
    | nilf => simpa [SR] using hv
    | undef => simp [SR]
    | al pl s lo n => exact absurd rfl (h1 _ _ _ _)
    | ptr pl => exact absurd rfl (h2 _)
    | fn f c => exact absurd rfl (h3 _ _)
    | own s es => exact absurd rfl (h4 _ _)
    | agg c => exact absurd rfl (h5 _)
    | tup c => exact absurd rfl (h6 _)

/-- the arguments, one by one -/
def ArgsAt (g : Gh) (W : World) : Nat → List SV → List Value → Prop
  | _, [], [] => True
  | i, v :: l, x :: r => SR ⟨g, W, #[], []⟩ (slotO i) v x ∧ ArgsAt g W (i + 1) l r
  | _, _, _ => False

theorem ArgsAt.get {g : Gh} {W : World} : ∀ {l : List SV} {r : List Value} {i : Nat}, ArgsAt g W i l r → r.length = l.length ∧ ∀ k, SR ⟨g, W, #[], []⟩ (slotO (i + k)) (l.getD k .undef) (r.getD k undef)
  | [], [], i, _ => ⟨rfl, fun k => by simp [SR]⟩
  | v :: l, x :: r, i, h => by
    simp only [ArgsAt] at h
    obtain ⟨h1, h2⟩ := ArgsAt.get h.2
    refine ⟨by simp [h1], fun k => ?_⟩
    cases k with
    | zero => simpa using h.1
    | succ k => have := h2 k; rw [show i + 1 + k = i + (k + 1) by omega] at this; simpa using this
  | [], _ :: _, _, h => by simp [ArgsAt] at h
  | _ :: _, [], _, h => by simp [ArgsAt] at h

theorem ArgsAt.toR {g : Gh} {W : World} {l : List SV} {xs : Array Value} (h : ArgsAt g W 0 l xs.toList) : ArgsR g W l xs ∧ xs.size = l.length := by
  obtain ⟨h1, h2⟩ := h.get
  refine ⟨fun k => ?_, by simpa using h1⟩
  have := h2 k
  rw [Nat.zero_add] at this
  have e : xs.getD k undef = xs.toList.getD k undef := by simp [Array.getD_eq_getD_getElem?, List.getD_eq_getElem?_getD]
  rw [e]; exact this

theorem ArgsAt.caps {g : Gh} {W : World} : ∀ {i : Nat} {l caps : List SV} {r : List Value} {rc : List Value}, ArgsAt g W i l r → okMem.okCaps caps = true → (∀ j o', SRs ⟨g, W, #[], []⟩ o' j caps rc) → ArgsAt g W i (l ++ caps) (r ++ rc)
  | i, [], caps, [], rc, _, hc, h => by
    simp only [List.nil_append]
    have main : ∀ (caps : List SV) (rc : List Value) (i j : Nat) (o : List Nat → Option Owner), okMem.okCaps caps = true → SRs ⟨g, W, #[], []⟩ o j caps rc → ArgsAt g W i caps rc := by
      intro caps
      induction caps with
      | nil => intro rc i j o _ h; cases rc with
        | nil => simp [ArgsAt]
        | cons _ _ => simp [SRs] at h
      | cons v caps ih =>
        intro rc i j o hc h
        cases rc with
        | nil => simp [SRs] at h
        | cons x rc =>
          simp only [SRs] at h
          simp only [ArgsAt]
          have hv : owns v = false ∧ okMem.okCaps caps = true := by cases v <;> simp_all [okMem.okCaps, owns]
          exact ⟨SR.anyO hv.1 h.1, ih _ _ _ _ hv.2 h.2⟩
    exact main caps rc i 0 (fun _ => none) hc (h 0 _)
  | i, v :: l, caps, x :: r, rc, h, hc, hcc => by
    simp only [ArgsAt, List.cons_append] at h ⊢
    exact ⟨h.1, ArgsAt.caps h.2 hc hcc⟩
  | _, [], _, _ :: _, _, h, _, _ => by simp [ArgsAt] at h
  | _, _ :: _, _, [], _, h, _, _ => by simp [ArgsAt] at h

theorem argsW_ok {a : Act} (hr : Rel ba σ g a.tmps W) : ∀ {l : List (Option SV)} {xs : List Opd} {ops : List Operand} {args : List SV} (i : Nat), argsW σ l xs = some args → mapO opdOf ops = some xs →
    (∀ j v, l[j]? = some (some v) → ∃ s es y, v = .own s es ∧ ops[j]? = some y ∧ OwnR ⟨g, W, #[], []⟩ (some (.res [i + j])) s es (a.eval y)) → ArgsAt (g.enter W) W i args (ops.map a.eval)
  | [], [], ops, args, i, h, hl, hm => by
    simp only [argsW, Option.some.injEq] at h; subst h
    cases ops with
    | nil => simp [ArgsAt]
    | cons y ys =>
      simp only [mapO, Option.bind_eq_some_iff, Option.map_eq_some_iff] at hl
      obtain ⟨_, _, _, _, h⟩ := hl
      simp at h
  | some v :: l, x :: xs, ops, args, i, h, hl, hm => by
    simp only [argsW, Option.map_eq_some_iff] at h
    obtain ⟨r, hr0, rfl⟩ := h
    cases ops with
    | nil => simp [mapO] at hl
    | cons y ys =>
      simp only [mapO, Option.bind_eq_some_iff, Option.map_eq_some_iff] at hl
      obtain ⟨_, hy, _, hys, h⟩ := hl
      simp only [List.cons.injEq] at h
      obtain ⟨rfl, rfl⟩ := h
      simp only [List.map_cons, ArgsAt]
      obtain ⟨s, es, y', rfl, e2, e3⟩ := hm 0 v (by simp)
      simp only [List.getElem?_cons_zero, Option.some.injEq] at e2
      subst e2
      refine ⟨?_, argsW_ok hr (i + 1) hr0 hys fun j v hj => ?_⟩
      · simp only [SR]; exact own_enter hr e3
      · obtain ⟨s', es', y', q1, q2, q3⟩ := hm (j + 1) v (by simpa using hj)
        exact ⟨s', es', y', q1, by simpa using q2, by rw [show i + 1 + j = i + (j + 1) by omega]; exact q3⟩
  | none :: l, x :: xs, ops, args, i, h, hl, hm => by
    simp only [argsW, Option.bind_eq_some_iff, Option.map_eq_some_iff] at h
    obtain ⟨v, hv, r, hr0, rfl⟩ := h
    cases ops with
    | nil => simp [mapO] at hl
    | cons y ys =>
      simp only [mapO, Option.bind_eq_some_iff, Option.map_eq_some_iff] at hl
      obtain ⟨_, hy, _, hys, h⟩ := hl
      simp only [List.cons.injEq] at h
      obtain ⟨rfl, rfl⟩ := h
      simp only [List.map_cons, ArgsAt]
      obtain ⟨o', hR⟩ := rd_ok hr hy
      refine ⟨argW_ok hr hv hR, argsW_ok hr (i + 1) hr0 hys fun j v hj => ?_⟩
      obtain ⟨s', es', y', q1, q2, q3⟩ := hm (j + 1) v (by simpa using hj)
      exact ⟨s', es', y', q1, by simpa using q2, by rw [show i + 1 + j = i + (j + 1) by omega]; exact q3⟩
  | [], _ :: _, _, _, _, h, _, _ => by simp [argsW] at h
  | some _ :: _, [], _, _, _, h, _, _ => by simp [argsW] at h
  | none :: _, [], _, _, _, h, _, _ => by simp [argsW] at h
end
end Go.VM

/-
V: calls that write, whole.
-/
namespace Go.VM
open Go
set_option linter.unusedVariables false
set_option linter.unusedSimpArgs false

def Enters (P : Program) (f : Nat) : Prop := ∀ xs W, (callFunc f xs).run P W = .ok (.enter f xs) W

/-- calls, as the machine has them -/
def CW (P : Program) (c : CallF) : Prop :=
  ∀ ba f args hp out r, c ba f args hp out = some r → Enters P f ∧ CallSpec P ba f args hp out r ∧ r.2.2.length = out.length ∧ okRet r.2.1.length out.length r.1 = true

section
variable {P : Program} {ba : Ba} {σ : St} {g : Gh} {tmps : Array Value} {W : World}

theorem callw_ok {c : CallF} (hc : CW P c) (hr : Rel ba σ g tmps W) {f : Nat} {args : List SV} {xs : Array Value} (hA : ArgsAt (g.enter W) W 0 args xs.toList) {v : SV} {σ' : St} (h : callw ba (c ba) σ f args = some (v, σ')) :
    Enters P f ∧ Calls P f xs W fun e W' => ∃ x g', e = .returned x ∧ GoodE ba σ g tmps W v x σ' g' W' := by
  simp only [callw, Option.bind_eq_some_iff, Option.map_eq_some_iff, Prod.mk.injEq] at h
  obtain ⟨r, hr1, fr, hfr, rfl, rfl⟩ := h
  obtain ⟨hE, hS, h1, h3⟩ := hc _ _ _ _ _ _ hr1
  obtain ⟨hA1, hA2⟩ := hA.toR
  refine ⟨hE, ?_⟩
  refine (hS _ _ _ (enter_ok hr) hA1 hA2).mono ?_
  rintro e W' ⟨x, g', rfl, k1, k2, k3⟩
  simp only [List.length_append, List.length_cons, List.length_nil, Nat.zero_add] at h1 h3 k3
  exact ⟨x, _, rfl, exit_ok hr k1 k3 h1 hfr k2 (okRet_leads h3)⟩

theorem freezeArgs_ok : ∀ {l : List Opd} {σ : St} {g : Gh}, Rel ba σ g tmps W →
    ∃ g1, Rel ba (freezeArgs σ l) g1 tmps W ∧ (∀ d, Ext d g g1 W W) ∧ g1.blk = g.blk ∧ (freezeArgs σ l).out = σ.out ∧ (freezeArgs σ l).hp = σ.hp
  | [], σ, g, hr => ⟨g, hr, fun d => Ext.refl d g W, rfl, rfl, rfl⟩
  | .c _ :: r, σ, g, hr => by simp only [freezeArgs]; exact freezeArgs_ok hr
  | .t k :: r, σ, g, hr => by
    simp only [freezeArgs]
    split
    · rename_i cs hk
      split
      · rename_i c hp
        by_cases ho : owns (getD .undef σ.env k) = true
        · have hpl : plains (freezeV (getD .undef σ.env k)).cells = some c := by
            rw [hk]; simp only [freezeV, ofCells, hp, SV.cells]
            clear hp hk ho
            induction c with
            | nil => rfl
            | cons a r ih => simp [plains, ih]
          have hcl := hr.clear k
          have hfz := hcl.freeze k (by rw [getD_clear, if_pos rfl]; rfl)
          have h1 := Rel.putBack hfz (v := freezeV (getD .undef σ.env k)) (freezeV_owns hpl) (frzV_ok hr ho hpl (hr.taken k ho) _)
          have e : leave σ (.t k) (freezeV (.agg cs)) = { σ with env := VM.put (mapE (kill (.sl k)) σ.env) k (freezeV (getD .undef σ.env k)) } := by
            simp only [leave]; rw [if_pos ho, hk]
          rw [← e] at h1
          obtain ⟨g1, a1, a2, a3, a4, a5⟩ := freezeArgs_ok (l := r) h1
          obtain ⟨l1, l2, l3⟩ := leave_out (σ := σ) (.t k) (freezeV (.agg cs))
          exact ⟨g1, a1, fun d => (Ext.freeze hr d k).trans (a2 d), a3, a4.trans l1, a5.trans l2⟩
        · have ho' : owns (getD .undef σ.env k) = false := by simpa using ho
          rw [leave_no ho']
          exact freezeArgs_ok hr
      · exact freezeArgs_ok hr
    · exact freezeArgs_ok hr

theorem call_ok {a : Act} {c : CallF} (hc : CW P c) (hr : Rel ba σ g a.tmps W) {ys : List Operand} {args : List Opd} (hl : mapO opdOf ys = some args) {mv : List Nat} {caps : List SV} {cs : Array Value} (hcap : okMem.okCaps caps = true)
    {o : List Nat → Option Owner} {i : Nat} (hcs : SRs ⟨g, W, a.tmps, σ.env⟩ o i caps cs.toList) {f : Nat} {v : SV} {σ' : St} (h : ((moveArgs (freezeArgs σ args) mv args).bind fun a => callw ba (c ba) a.2 f (a.1 ++ caps)) = some (v, σ')) :
    Enters P f ∧ Calls P f ((ys.map a.eval).toArray ++ cs) W fun e W' => ∃ x g', e = .returned x ∧ GoodE ba σ g a.tmps W v x σ' g' W' := by
  simp only [Option.bind_eq_some_iff, moveArgs, Option.map_eq_some_iff] at h
  obtain ⟨_, ⟨l, hl1, rfl⟩, h⟩ := h
  obtain ⟨g1, a1, a2, a3, a4, a5⟩ := freezeArgs_ok (l := args) hr
  obtain ⟨fn, f1, f2, f3, f4, f5⟩ := moves_ok mv 0 a1 hl
  have hA := argsW_ok f3 0 hl1 hl (by simpa using f5)
  have hA2 := ArgsAt.caps (rc := cs.toList) hA hcap (fun j o' => by
    have : ∀ (caps : List SV) (rc : List Value) (i j : Nat) (o o' : List Nat → Option Owner), okMem.okCaps caps = true → SRs ⟨g, W, a.tmps, σ.env⟩ o i caps rc → SRs ⟨(g1.name fn).enter W, W, #[], []⟩ o' j caps rc := by
      intro caps
      induction caps with
      | nil => intro rc i j o o' _ h; cases rc with
        | nil => simp [SRs]
        | cons _ _ => simp [SRs] at h
      | cons v caps ih =>
        intro rc i j o o' hk h
        cases rc with
        | nil => simp [SRs] at h
        | cons x rc =>
          simp only [SRs] at h ⊢
          refine ⟨?_, ih _ _ _ _ _ (by cases v <;> simp_all [okMem.okCaps]) h.2⟩
          have h1 := caps_enter (cx' := ⟨(g1.name fn).enter W, W, #[], []⟩) (cx := ⟨g, W, a.tmps, σ.env⟩) (i := 0) (v := [v]) (x := [x]) (o := fun π => match π with | [] => none | _ :: r => o (i :: r)) (o' := fun π => match π with | [] => none | _ :: r => o' (j :: r)) (fun r b h => by simp only [Gh.enter, Gh.name, a3]; exact h) (by cases v <;> simp_all [okMem.okCaps]) (by simp only [SRs]; exact ⟨h.1, trivial⟩)
          simp only [SRs] at h1
          exact h1.1
    exact this caps cs.toList i j o o' hcap hcs)
  obtain ⟨hE, hC⟩ := callw_ok hc f3 (xs := (ys.map a.eval).toArray ++ cs) (by simpa using hA2) h
  refine ⟨hE, hC.mono ?_⟩
  rintro e W' ⟨x, g', rfl, k⟩
  exact ⟨x, g', rfl, GoodE.after ((a2 _).trans (Ext.name _ fn)) (by rw [f4.1, a4]) k⟩
end
end Go.VM

/-
V: calls that only read, whole.
-/
namespace Go.VM
open Go
set_option linter.unusedVariables false
set_option linter.unusedSimpArgs false

/-- the ghost of a callee that may write nothing that lay there -/
def Gh.enterR (g : Gh) (W : World) : Gh :=
  { g with own := fun b => none
           Ψ := cellsAt W }
def baR (σ : St) : Ba := ⟨σ.hp.length, σ.out.length + 1⟩

/-- the ghost behind it -/
def Gh.leaveR (g g2 : Gh) (n hb d : Nat) : Gh where
  blk r := match r with
    | .hp i => if i < hb then g2.blk (.hp i) else none
    | .st e k => if e ≤ d then g2.blk (.st e k) else none
    | .sl k => g.blk (.sl k)
  own b := if b < n then g.own b else (g2.own b).map deadN
  Ψ b := if b < n then g.Ψ b else g2.Ψ b
  Φ := g2.Φ

section
variable {P : Program} {ba : Ba} {σ : St} {g g2 : Gh} {tmps : Array Value} {W W2 : World}

theorem gle_enterR (hr : Rel ba σ g tmps W) : GLe g (g.enterR W) where
  stab b c h := (hr.stab b c h).2
  perm b h := h

theorem no_write {σ : St} {r : Root} (hs : isSl r = false) (h : ∃ ob, σ.obj r = some ob) : writable (baR σ) r = false := by
  obtain ⟨ob, h⟩ := h
  cases r with
  | sl k => simp [isSl] at hs
  | hp i =>
    simp only [St.obj] at h
    have : i < σ.hp.length := by
      rcases Nat.lt_or_ge i σ.hp.length with h' | h'
      · exact h'
      · rw [List.getElem?_eq_none h'] at h; simp at h
    exact decide_eq_false (Nat.not_le.2 this)
  | st d k =>
    rw [obj_all] at h
    have : d < (σ.out ++ [σ.fr]).length := by
      rcases Nat.lt_or_ge d (σ.out ++ [σ.fr]).length with h' | h'
      · exact h'
      · rw [List.getElem?_eq_none h'] at h; simp at h
    simp at this
    exact decide_eq_false (Nat.not_le.2 (show d < σ.out.length + 1 by omega))

mutual
/-- values with owners, that nobody owns any more -/
theorem SR.frameR {cx cx' : Cx} (hg : GLe cx.g cx'.g) (hb : ∀ r b, cx.g.blk r = some b → cx'.g.blk r = some b) (hW : cx'.W = cx.W) (hn : ∀ b, cx'.g.own b = none) : ∀ {v : SV} {x : Value} {o o' : List Nat → Option Owner}, (∀ π, o' π = none) → okMem v = true → SR cx o v x → SR cx' o' v x
  | .p v, x, o, o', ho, hs, e => by simp only [SR] at e ⊢; exact PR.mono hg _ _ e
  | .own s es, x, o, o', ho, hs, e => by
    simp only [SR] at e ⊢
    obtain ⟨a, n, cap, h1, h2, h3, h4, h5, h6⟩ := e
    refine ⟨a, n, cap, h1, h2, h3, h4, h5, ?_⟩
    rcases h6 with h6 | ⟨c, T, fr, e1, e2, e3, e4, e5⟩
    · exact .inl h6
    · exact .inr ⟨c, T, fr, by rw [hW]; exact e1, e2, by rw [hn, ho], e4, PRss.mono hg _ _ e5⟩
  | .lent s es, x, o, o', ho, hs, e => by
    simp only [SR] at e ⊢
    obtain ⟨a, n, cap, e1, e2, e3, e4, e5⟩ := e
    refine ⟨a, n, cap, e1, e2, e3, e4, ?_⟩
    rcases e5 with e5 | ⟨e6, c, e7, e8⟩
    · exact .inl e5
    · exact .inr ⟨e6, c, hg.stab _ _ e7, PRss.mono hg _ _ e8⟩
  | .ptr pl, x, o, o', ho, hs, e => by
    simp only [okMem, Bool.and_eq_true, Option.isNone_iff_eq_none] at hs
    simp only [SR, PtrR, hs.1] at e ⊢
    obtain ⟨h1, b, h2, h3⟩ := e
    exact ⟨h1, b, hb _ _ h2, h3⟩
  | .nilp, x, o, o', ho, hs, e => by simpa [SR] using e
  | .fn f caps, x, o, o', ho, hs, e => by
    simp only [SR, okMem] at e hs ⊢
    obtain ⟨a, h1, h2⟩ := e
    exact ⟨a, h1, caps_enter hb hs h2⟩
  | .nilf, x, o, o', ho, hs, e => by simpa [SR] using e
  | .undef, x, o, o', ho, hs, e => by simp [SR]
  | .pagg cs, x, o, o', ho, hs, e => by simp [okMem] at hs
  | .al pl s lo n, x, o, o', ho, hs, e => by simp [okMem] at hs
  | .cptr cs, x, o, o', ho, hs, e => by simp [okMem] at hs
  | .agg cs, x, o, o', ho, hs, e => by simp [okMem] at hs
  | .tup cs, x, o, o', ho, hs, e => by simp [okMem] at hs
end
theorem SRs.frameR {cx cx' : Cx} (hg : GLe cx.g cx'.g) (hb : ∀ r b, cx.g.blk r = some b → cx'.g.blk r = some b) (hW : cx'.W = cx.W) (hn : ∀ b, cx'.g.own b = none) : ∀ {i : Nat} {v : List SV} {x : List Value} {o o' : List Nat → Option Owner}, (∀ π, o' π = none) → v.all okMem = true → SRs cx o i v x → SRs cx' o' i v x
  | _, [], [], _, _, _, _, _ => by simp [SRs]
  | i, v :: vs, x :: xs, o, o', ho, hs, e => by
    simp only [SRs, List.all_cons, Bool.and_eq_true] at e hs ⊢
    exact ⟨SR.frameR hg hb hW hn (fun π => ho _) hs.1 e.1, SRs.frameR hg hb hW hn ho hs.2 e.2⟩
  | _, [], _ :: _, _, _, _, _, e => by simp [SRs] at e
  | _, _ :: _, [], _, _, _, _, e => by simp [SRs] at e

theorem enterR_ok (hr : Rel ba σ g tmps W) : Mrel (baR σ) σ.hp (σ.out ++ [σ.fr]) (g.enterR W) W where
  env k := by simp [getD, SR]
  mem r ob hs ho hne := by
    have ho' : σ.obj r = some ob := by
      cases r with
      | sl k => simp [isSl] at hs
      | hp i => exact ho
      | st d k =>
        rw [obj_all]
        simp only [St.obj, List.length_append, List.length_cons, List.length_nil] at ho
        split at ho
        · simp only [getD, Option.some.injEq] at ho; exact absurd ho.symm hne
        · exact ho
    obtain ⟨b, c, T, fr, h1, h2, h3, h4, h5, h6⟩ := hr.mem r ob hs ho' hne
    have hw := no_write (σ := σ) hs ⟨ob, ho'⟩
    refine ⟨b, c, T, fr, h1, h2, h3, by simp [ownerOf, hw, Gh.enterR], ?_, h6⟩
    exact SRs.frameR (cx := ⟨g, W, tmps, σ.env⟩) (cx' := ⟨g.enterR W, W, #[], []⟩) (gle_enterR hr) (fun _ _ h => h) rfl (fun _ => rfl) (fun π => by simp [ownerOf, hw]) (okAt_all h6) h5
  stab b c h := by
    exact ⟨rfl, h⟩
  alive b h := by
    refine ⟨rfl, ?_⟩
    simp only [Gh.enterR, cellsAt]
    rw [Array.getElem?_eq_none h]
  perm b h := by
    obtain ⟨c, hc⟩ := hr.perm b h
    exact ⟨c, (gle_enterR hr).stab b c hc⟩
  base := by simp [baR]
  hpIn := hr.hpIn
  stIn d k b h := by have := hr.stIn d k b h; simp; omega
  lt := hr.lt
  inj := hr.inj
  kind r b hs h := .inl rfl

theorem argRo_ok (hr : Rel ba σ g tmps W) {v v' : SV} {x : Value} {o o' : List Nat → Option Owner} (h : argRo σ v = some v') (hv : SR ⟨g, W, tmps, σ.env⟩ o v x) : SR ⟨g.enterR W, W, #[], []⟩ o' v' x := by
  unfold argRo at h
  split at h
  · rename_i pl s lo n
    simp only [Option.bind_eq_some_iff] at h
    obtain ⟨z, hz, h⟩ := h
    obtain ⟨hs, h⟩ := ite_some h
    simp only [Option.map_eq_some_iff] at h
    obtain ⟨es, he, rfl⟩ := h
    simp only [SR]
    have hL := hv
    -- blocks that somebody owns, and those that nobody owns but lie in what may not be written
    simp only [SR, AlR] at hv
    obtain ⟨s', es'⟩ := z
    simp only at hs he; subst hs
    obtain ⟨hle, rfl⟩ := sub_some he
    obtain ⟨hrow, a, m, cap, b, cap', hh, ha, h3, h4, rfl, h5, h6, h7⟩ := hv
    obtain ⟨ow, ⟨a', n', cp, hx, e1, e2, e3, e4, e5⟩, how, _, hwr⟩ := hr.place hz hh
    simp only [Value.slice.injEq, Option.some.injEq] at hx
    obtain ⟨rfl, rfl, rfl⟩ := hx
    refine ⟨_, _, _, rfl, by simp; omega, h5, h6, ?_⟩
    rcases h7 with h7 | ⟨h8, h9, h10⟩
    · left; omega
    · by_cases hn : n = 0
      · exact .inl hn
      right
      rcases e5 with e5 | ⟨c, T, fr, e6, e7, e8, e9, e10⟩
      · omega
      refine ⟨(e4.drop lo).take n, c, ?_, ?_⟩
      · rw [h8]; exact cellsAt_iff.2 ⟨T, fr, e6⟩
      · have := PRss.mono (gle_enterR hr) _ _ (PRss.take n (PRss.drop lo e4 e10))
        rw [List.drop_drop] at this
        rw [h9]; exact this
  · rename_i pl
    split at h
    · simp at h
    · rename_i hk
      simp only [Option.some.injEq] at h; subst h
      simp only [SR, PtrR] at hv ⊢
      split at hv
      · exact hv
      · obtain ⟨a, m, cap, hh, hv⟩ := hv
        refine ⟨a, m, cap, ?_, hv⟩
        cases hroot : pl.root with
        | sl k => exact absurd hroot (hk k)
        | hp i | st d i => all_goals simp only [hdr, hroot] at hh ⊢; exact hh
  · rename_i f caps
    obtain ⟨hc, h⟩ := ite_some h
    simp only [Option.some.injEq] at h; subst h
    simp only [SR] at hv ⊢
    obtain ⟨a, h1, h2⟩ := hv
    exact ⟨a, h1, caps_enter (cx := ⟨g, W, tmps, σ.env⟩) (cx' := ⟨g.enterR W, W, #[], []⟩) (fun _ _ h => h) hc h2⟩
  · simp at h
  · simp at h
  · simp at h
  · rename_i h1 h2 h3 h4 h5 h6
    simp only [Option.some.injEq] at h; subst h
    cases v with
    | p v => simp only [SR] at hv ⊢; exact PR.mono (gle_enterR hr) _ _ hv
    | pagg cs => simp only [SR] at hv ⊢; obtain ⟨a, e1, e2⟩ := hv; exact ⟨a, e1, PRs.mono (gle_enterR hr) _ _ e2⟩
    | lent s es =>
      simp only [SR] at hv ⊢
      obtain ⟨a, n, cap, e1, e2, e3, e4, e5⟩ := hv
      refine ⟨a, n, cap, e1, e2, e3, e4, ?_⟩
      rcases e5 with e5 | ⟨e6, c, e7, e8⟩
      · exact .inl e5
      · exact .inr ⟨e6, c, (gle_enterR hr).stab _ _ e7, PRss.mono (gle_enterR hr) _ _ e8⟩
    | cptr cs =>
      simp only [SR] at hv ⊢
      obtain ⟨b, off, c, e1, e2, e3⟩ := hv
      exact ⟨b, off, c, e1, (gle_enterR hr).stab _ _ e2, PRs.mono (gle_enterR hr) _ _ e3⟩
    | nilp => simpa [SR] using hv
    | nilf => simpa [SR] using hv
    | undef => simp [SR]
    | al pl s lo n => exact absurd rfl (h1 _ _ _ _)
    | ptr pl => exact absurd rfl (h2 _)
    | fn f c => exact absurd rfl (h3 _ _)
    | own s es => exact absurd rfl (h4 _ _)
    | agg c => exact absurd rfl (h5 _)
    | tup c => exact absurd rfl (h6 _)

/-- roots that were there -/
def okRootH (hb d : Nat) : Root → Bool
  | .hp i => decide (i < hb)
  | .st e _ => decide (e ≤ d)
  | .sl _ => false

theorem okRetC_leadsH {hb d : Nat} : ∀ {l : List SV}, okMem.okCaps l = true → okRetL hb (d + 1) l = true → leadsC (okRootH hb d) l = true
  | [], _, _ => rfl
  | .ptr pl :: r, h, e => by
    simp only [okMem.okCaps, okRetL, okRet, Bool.and_eq_true] at h e
    simp only [leadsC, Bool.and_eq_true]
    refine ⟨⟨e.1.1, ?_⟩, okRetC_leadsH h.2 e.2⟩
    have := e.1.2
    cases hr : pl.root <;> rw [hr] at this <;> simp [okRootH] at this ⊢
    · exact this
    · omega
  | .p _ :: _, e, _ => by simp [okMem.okCaps] at e
  | .pagg _ :: _, e, _ => by simp [okMem.okCaps] at e
  | .own _ _ :: _, e, _ => by simp [okMem.okCaps] at e
  | .lent _ _ :: _, e, _ => by simp [okMem.okCaps] at e
  | .al _ _ _ _ :: _, e, _ => by simp [okMem.okCaps] at e
  | .cptr _ :: _, e, _ => by simp [okMem.okCaps] at e
  | .nilp :: _, e, _ => by simp [okMem.okCaps] at e
  | .fn _ _ :: _, e, _ => by simp [okMem.okCaps] at e
  | .nilf :: _, e, _ => by simp [okMem.okCaps] at e
  | .agg _ :: _, e, _ => by simp [okMem.okCaps] at e
  | .tup _ :: _, e, _ => by simp [okMem.okCaps] at e
  | .undef :: _, e, _ => by simp [okMem.okCaps] at e

mutual
theorem okRet_leadsH {hb d : Nat} : ∀ {v : SV}, okRet hb (d + 1) v = true → leads (okRootH hb d) v = true
  | .p _, _ => rfl
  | .pagg _, _ => rfl
  | .own _ _, _ => rfl
  | .nilp, _ => rfl
  | .nilf, _ => rfl
  | .lent _ _, e => by simp [okRet] at e
  | .cptr _, e => by simp [okRet] at e
  | .undef, e => by simp [okRet] at e
  | .ptr pl, e => by
    simp only [okRet, leads, Bool.and_eq_true] at e ⊢
    refine ⟨e.1, ?_⟩
    have := e.2
    cases hr : pl.root <;> rw [hr] at this <;> simp [okRootH] at this ⊢
    · exact this
    · omega
  | .al pl _ _ _, e => by
    simp only [okRet, leads, Bool.and_eq_true] at e ⊢
    have := e.2
    cases hr : pl.root <;> rw [hr] at this <;> simp [okRootH] at this ⊢
    · exact this
    · omega
  | .fn _ c, e => by
    simp only [okRet, leads, Bool.and_eq_true] at e ⊢
    exact okRetC_leadsH e.1 e.2
  | .agg cs, e => by simp only [okRet, leads] at e ⊢; exact okRetL_leadsH e
  | .tup cs, e => by simp only [okRet, leads] at e ⊢; exact okRetL_leadsH e
theorem okRetL_leadsH {hb d : Nat} : ∀ {l : List SV}, okRetL hb (d + 1) l = true → leadsL (okRootH hb d) l = true
  | [], _ => rfl
  | v :: r, e => by
    simp only [okRetL, leadsL, Bool.and_eq_true] at e ⊢
    exact ⟨okRet_leadsH e.1, okRetL_leadsH e.2⟩
end

theorem leaveR_blk {n hb d : Nat} {r : Root} {b : Nat} (hs : isSl r = false) (h : (g.leaveR g2 n hb d).blk r = some b) : okRootH hb d r = true ∧ g2.blk r = some b := by
  cases r with
  | sl k => simp [isSl] at hs
  | hp i =>
    simp only [Gh.leaveR] at h
    split at h
    · rename_i hi; exact ⟨by simpa [okRootH] using hi, h⟩
    · simp at h
  | st d k =>
    simp only [Gh.leaveR] at h
    split at h
    · rename_i hi; exact ⟨by simpa [okRootH] using hi, h⟩
    · simp at h
theorem leaveR_blk' {n hb d : Nat} {r : Root} (h : okRootH hb d r = true) : (g.leaveR g2 n hb d).blk r = g2.blk r := by
  cases r with
  | sl k => simp [okRootH] at h
  | hp i => simp only [okRootH, decide_eq_true_eq] at h; simp only [Gh.leaveR]; rw [if_pos h]
  | st d k => simp only [okRootH, decide_eq_true_eq] at h; simp only [Gh.leaveR]; rw [if_pos h]

/-- what of memory counts behind a call that only reads -/
structure MrelK (g2 : Gh) (W2 : World) : Prop where
  stab : ∀ b c, g2.Ψ b = some c → g2.own b = none ∧ cellsAt W2 b = some c
  alive : ∀ b, W2.heap.size ≤ b → g2.own b = none ∧ g2.Ψ b = none
  perm : ∀ b, g2.Φ b = true → ∃ c, g2.Ψ b = some c
  lt : ∀ r b, g2.blk r = some b → b < W2.heap.size
  inj : ∀ r r' b, g2.blk r = some b → g2.blk r' = some b → r = r'
  kind : ∀ r b, isSl r = false → g2.blk r = some b → g2.own b = none ∨ g2.own b = some (.obj r)

theorem exitK_ok (hr : Rel ba σ g tmps W) (hm : MrelK g2 W2) (hx : Ext (σ.out.length + 1) (g.enterR W) g2 W W2)
    {v : SV} {x : Value} (hv : SR ⟨g2, W2, #[], []⟩ resO v x) (hok : okRet σ.hp.length (σ.out.length + 1) v = true) :
    Good ba σ g tmps W v x (g.leaveR g2 W.heap.size σ.hp.length σ.out.length) W2 := by
  have hkeep : ∀ b, b < W.heap.size → W2.heap[b]? = W.heap[b]? ∧ (g.leaveR g2 W.heap.size σ.hp.length σ.out.length).own b = g.own b := by
    intro b hlt
    refine ⟨(hx.keep b hlt rfl).2, ?_⟩
    simp only [Gh.leaveR]; rw [if_pos hlt]
  have hnew : ∀ b, W.heap.size ≤ b → (g.leaveR g2 W.heap.size σ.hp.length σ.out.length).own b = (g2.own b).map deadN ∧ (g.leaveR g2 W.heap.size σ.hp.length σ.out.length).Ψ b = g2.Ψ b := by
    intro b hlt
    simp only [Gh.leaveR]; rw [if_neg (by omega), if_neg (by omega)]; exact ⟨rfl, rfl⟩
  have hΨ : ∀ b, b < W.heap.size → (g.leaveR g2 W.heap.size σ.hp.length σ.out.length).Ψ b = g.Ψ b := by
    intro b hlt; simp only [Gh.leaveR]; rw [if_pos hlt]
  have hlt : ∀ b c, g.Ψ b = some c → b < W.heap.size := fun b c h => cellsAt_lt (hr.stab b c h).2
  have hgle : GLe g (g.leaveR g2 W.heap.size σ.hp.length σ.out.length) := by
    refine ⟨fun b c h => ?_, fun b h => hx.perm b h⟩
    rw [hΨ b (hlt b c h)]; exact h
  have hphi : ∀ b, g2.Φ b = true → b < W.heap.size → g.Φ b = true := by
    intro b h hb
    rcases hx.fresh b h with e | e | e
    · exact e
    · exact absurd rfl e
    · omega
  have hblk : ∀ r b, g.blk r = some b → (g.leaveR g2 W.heap.size σ.hp.length σ.out.length).blk r = some b := by
    intro r b h
    cases r with
    | sl k => exact h
    | hp i =>
      have h1 := hx.blk (.hp i) b trivial h
      rw [leaveR_blk' (by simpa [okRootH] using hr.hpIn i b h)]; exact h1
    | st d k =>
      have h2 := hr.stIn d k b h
      have h1 := hx.blk (.st d k) b (Nat.lt_succ_of_le h2) h
      rw [leaveR_blk' (by simpa [okRootH] using h2)]; exact h1
  have hF : Fr (fun _ => True) ⟨g, W, tmps, σ.env⟩ ⟨g.leaveR g2 W.heap.size σ.hp.length σ.out.length, W2, tmps, σ.env⟩ := ⟨hgle, hblk, fun b h _ => hkeep b h, trivial⟩
  refine ⟨⟨fun k => ?_, fun r ob hs hob hne => ?_, fun b c h => ?_, fun b h => ?_, fun b h => ?_, hr.base, ?_, ?_, ?_, ?_, ?_⟩, ?_, ?_⟩
  · exact SR.frame hF (hdr.frame hr hF fun r b _ hb => (hkeep b hb).1) (fun _ => trivial) (hr.env k)
  · exact ObR.frame hF (fun _ => trivial) trivial (hr.mem r ob hs hob hne)
  · by_cases hb : b < W.heap.size
    · rw [hΨ b hb] at h
      obtain ⟨h1, h2⟩ := hr.stab b c h
      exact ⟨by rw [(hkeep b hb).2]; exact h1, by rw [cellsAt_of_heap (hkeep b hb).1]; exact h2⟩
    · rw [(hnew b (by omega)).2] at h
      obtain ⟨h1, h2⟩ := hm.stab b c h
      exact ⟨by rw [(hnew b (by omega)).1, h1]; rfl, h2⟩
  · have hb : W.heap.size ≤ b := Nat.le_trans hx.size h
    obtain ⟨h1, h2⟩ := hm.alive b h
    exact ⟨by rw [(hnew b hb).1, h1]; rfl, by rw [(hnew b hb).2]; exact h2⟩
  · by_cases hb : b < W.heap.size
    · obtain ⟨c, hc⟩ := hr.perm b (hphi b h hb)
      exact ⟨c, by rw [hΨ b hb]; exact hc⟩
    · obtain ⟨c, hc⟩ := hm.perm b h
      exact ⟨c, by rw [(hnew b (by omega)).2]; exact hc⟩
  · intro i b h
    have := (leaveR_blk rfl h).1
    simpa [okRootH] using this
  · intro d k b h
    have := (leaveR_blk rfl h).1
    simpa [okRootH] using this
  · intro r b h
    cases hs : isSl r with
    | true => cases r with
      | sl k => exact Nat.lt_of_lt_of_le (hr.lt _ b h) hx.size
      | _ => simp [isSl] at hs
    | false => exact hm.lt r b (leaveR_blk hs h).2
  · have mix : ∀ r r' b, isSl r = true → isSl r' = false → (g.leaveR g2 W.heap.size σ.hp.length σ.out.length).blk r = some b → (g.leaveR g2 W.heap.size σ.hp.length σ.out.length).blk r' = some b → r = r' := by
      intro r r' b hs hs' h h'
      have h1 : g.blk r = some b := by
        cases r with
        | sl k => exact h
        | _ => simp [isSl] at hs
      have h2 := (leaveR_blk hs' h').2
      have := hr.lt r b h1
      rcases hx.newBlk r' b h2 with e | e
      · exact hr.inj r r' b h1 e
      · omega
    intro r r' b h h'
    cases hs : isSl r with
    | true =>
      cases hs' : isSl r' with
      | true =>
        cases r with
        | sl k => cases r' with
          | sl k' => exact hr.inj _ _ b h h'
          | _ => simp [isSl] at hs'
        | _ => simp [isSl] at hs
      | false => exact mix r r' b hs hs' h h'
    | false =>
      cases hs' : isSl r' with
      | true => exact (mix r' r b hs' hs h' h).symm
      | false => exact hm.inj r r' b (leaveR_blk hs h).2 (leaveR_blk hs' h').2
  · intro r b hs h
    have h2 := (leaveR_blk hs h).2
    by_cases hb : b < W.heap.size
    · rcases hx.newBlk r b h2 with e | e
      · rw [(hkeep b hb).2]; exact hr.kind r b hs e
      · omega
    · rw [(hnew b (by omega)).1]
      rcases hm.kind r b hs h2 with e | e
      · left; rw [e]; rfl
      · right; rw [e]; rfl
  · refine ⟨hx.size, fun b hb hn => ⟨by rw [(hkeep b hb).2]; exact hn, (hkeep b hb).1⟩, hgle.stab, hgle.perm, fun b h => ?_, fun r b _ h => hblk r b h, fun r b h => ?_, hx.os, hx.tape, hx.output⟩
    · rcases hx.fresh b h with e | e | e
      · exact .inl e
      · exact absurd rfl e
      · exact .inr (.inr e)
    · cases hs : isSl r with
      | true => cases r with
        | sl k => exact .inl h
        | _ => simp [isSl] at hs
      | false => exact hx.newBlk r b (leaveR_blk hs h).2
  · refine SR.frameT (okB := okRootH σ.hp.length σ.out.length) (K := backK) (cx := ⟨g2, W2, #[], []⟩) (cx' := ⟨g.leaveR g2 W.heap.size σ.hp.length σ.out.length, W2, tmps, σ.env⟩) (o := resO) (o' := resO) ⟨fun b c h1 h2 => ⟨h1, ?_⟩, fun r b h e => ?_, fun b o o' hb hK ho => ⟨rfl, ?_⟩, fun pl y h e => ?_⟩ (fun π => ⟨by simp [resO], by simp [resO, deadN]⟩) (okRet_leadsH hok) hv
    · by_cases hb : b < W.heap.size
      · obtain ⟨c', hc'⟩ := hr.perm b (hphi b h1 hb)
        have h3 := hx.stab b c' (hr.stab b c' hc').2
        simp only at h2
        rw [h2] at h3
        simp only [Option.some.injEq] at h3; subst h3
        show (g.leaveR g2 W.heap.size σ.hp.length σ.out.length).Ψ b = some c
        rw [hΨ b hb]; exact hc'
      · show (g.leaveR g2 W.heap.size σ.hp.length σ.out.length).Ψ b = some c
        rw [(hnew b (by omega)).2]; exact h2
    · show (g.leaveR g2 W.heap.size σ.hp.length σ.out.length).blk r = some b
      rw [leaveR_blk' h]; exact e
    · simp only at ho
      have hb' : W.heap.size ≤ b := by
        rcases Nat.lt_or_ge b W.heap.size with h | h
        · have := (hx.keep b h rfl).1
          rw [this] at ho; exact absurd ho.symm hK.1
        · exact h
      show (g.leaveR g2 W.heap.size σ.hp.length σ.out.length).own b = o'
      rw [(hnew b hb').1, ho]; exact hK.2.symm
    · have hb := leaveR_blk' (g := g) (g2 := g2) (n := W.heap.size) h
      cases hroot : pl.root with
      | sl k => rw [hroot] at h; simp [okRootH] at h
      | hp i | st d i =>
        all_goals
          rw [hroot] at hb
          simp only [hdr, hroot] at e ⊢
          rw [hb]; exact e

theorem exitR_ok (hr : Rel ba σ g tmps W) {hp' : List Obj} {out' : List (List (Nat × Obj))} {ba' : Ba} (hm : Mrel ba' hp' out' g2 W2) (hx : Ext (σ.out.length + 1) (g.enterR W) g2 W W2)
    {v : SV} {x : Value} (hv : SR ⟨g2, W2, #[], []⟩ resO v x) (hok : okRet σ.hp.length (σ.out.length + 1) v = true) :
    Good ba σ g tmps W v x (g.leaveR g2 W.heap.size σ.hp.length σ.out.length) W2 :=
  exitK_ok hr ⟨hm.stab, hm.alive, hm.perm, hm.lt, hm.inj, hm.kind⟩ hx hv hok
end
end Go.VM

/-
V: every operation is sound, given the calls.
-/
namespace Go.VM
open Go
set_option linter.unusedVariables false
set_option linter.unusedSimpArgs false

/-- functions that the machine has by hand -/
def QPrimOk (P : Program) (f : Nat) (F : List SV → Option SV) : Prop :=
  ∀ (args : List SV) (v : SV), F args = some v → ∀ (ba : Ba) (σ : St) (g : Gh) (tmps : Array Value) (W : World) (xs : Array Value), Rel ba σ g tmps W → ArgsAt (g.enterR W) W 0 args xs.toList →
    ∀ (o : Oper) (a : Act) (next : Act → World → Prop) (Q : Exit → Act → World → Prop), a.tmps = tmps → (∀ x g' W', Good ba σ g tmps W v x g' W' → next (a.put o.dst x) W') → o.upon P a next Q ((callFunc f xs).run P W)
def CPrimOk (P : Program) (f : Nat) (s : Nat) (F : List (List PV) → List SV → Option (List (List PV))) : Prop :=
  ∀ (ba : Ba) (σ : St) (g : Gh) (a : Act) (W : World) (ys : List Operand) (args : List Opd) (v : SV) (σ' : St), Rel ba σ g a.tmps W → mapO opdOf ys = some args → conPrim ba σ s F args = some (v, σ') →
    ∀ (o : Oper) (next : Act → World → Prop) (Q : Exit → Act → World → Prop), (∀ x g' W', GoodE ba σ g a.tmps W v x σ' g' W' → next (a.put o.dst x) W') → o.upon P a next Q ((callFunc f (ys.map a.eval).toArray).run P W)
def PrimOk (P : Program) (T : Tab) : Prop := ∀ f p, T.prim f = some p → match p with
  | .q F => QPrimOk P f F
  | .con s F => CPrimOk P f s F

section
variable {P : Program} {ba : Ba} {σ : St} {g : Gh} {tmps : Array Value} {W : World}

theorem argsRo_ok (hr : Rel ba σ g tmps W) : ∀ {ws args : List SV} {xs : List Value} (i : Nat), mapO (argRo σ) ws = some args → AnyRs ⟨g, W, tmps, σ.env⟩ ws xs → ArgsAt (g.enterR W) W i args xs
  | [], args, xs, i, h, hA => by
    simp [mapO] at h; subst h
    cases xs with
    | nil => simp [ArgsAt]
    | cons _ _ => simp [AnyRs] at hA
  | w :: ws, args, xs, i, h, hA => by
    simp only [mapO, Option.bind_eq_some_iff, Option.map_eq_some_iff] at h
    obtain ⟨v, hv, r, hr0, rfl⟩ := h
    cases xs with
    | nil => simp [AnyRs] at hA
    | cons x xs =>
      simp only [AnyRs] at hA
      obtain ⟨⟨o, h1⟩, h2⟩ := hA
      simp only [ArgsAt]
      exact ⟨argRo_ok hr hv h1, argsRo_ok hr (i + 1) hr0 h2⟩

theorem caps_any {cx cx' : Cx} (hb : ∀ r b, cx.g.blk r = some b → cx'.g.blk r = some b) : ∀ {v : List SV} {x : List Value}, okMem.okCaps v = true → AnyRs cx v x → ∀ i o', SRs cx' o' i v x
  | [], [], _, _ => fun i o' => by simp [SRs]
  | v :: vs, x :: xs, hk, e => fun i o' => by
    simp only [AnyRs] at e
    obtain ⟨⟨o, e1⟩, e2⟩ := e
    cases v <;> simp only [okMem.okCaps, Bool.and_eq_true, Option.isNone_iff_eq_none, reduceCtorEq, Bool.false_eq_true] at hk
    obtain ⟨⟨h1, h2⟩, h3⟩ := hk
    simp only [SRs, SR, PtrR, h1] at e1 ⊢
    obtain ⟨q1, b, q2, q3⟩ := e1
    exact ⟨⟨q1, b, hb _ _ q2, q3⟩, caps_any hb h3 e2 _ _⟩
  | [], _ :: _, _, e => by simp [AnyRs] at e
  | _ :: _, [], _, e => by simp [AnyRs] at e

theorem callRo_ok {T : Tab} {c : CallF} (hc : CW P c) (hp : PrimOk P T) (ba : Ba) (σ : St) : CallQ P ba σ (callRo T c σ) := by
  intro f ws args v g tmps W xs hargs caps hcall hr hA cs hcap hcs o a next Q ha hn
  have hA1 := argsRo_ok hr 0 hargs hA
  have hA2 := ArgsAt.caps (rc := cs.toList) hA1 hcap (fun j o' => caps_any (cx := ⟨g, W, tmps, σ.env⟩) (cx' := ⟨g.enterR W, W, #[], []⟩) (fun _ _ h => h) hcap hcs j o')
  have hA3 : ArgsAt (g.enterR W) W 0 (args ++ caps) (xs ++ cs).toList := by simpa using hA2
  unfold callRo at hcall
  split at hcall
  · rename_i F hF
    have := hp _ _ hF
    exact this _ _ hcall ba σ g tmps W _ hr hA3 o a next Q ha hn
  · simp at hcall
  · obtain ⟨hro, hcall⟩ := ite_some hcall
    simp only [Option.bind_eq_some_iff] at hcall
    obtain ⟨r, hr1, hcall⟩ := hcall
    obtain ⟨hok, hcall⟩ := ite_some hcall
    simp only [Option.some.injEq] at hcall; subst hcall
    obtain ⟨hE, hS, h1, h3⟩ := hc _ _ _ _ _ _ hr1
    rw [hE]
    obtain ⟨hR1, hR2⟩ := hA3.toR
    rw [Oper.upon_enter]
    refine (hS _ _ _ (enterR_ok hr) hR1 hR2).mono ?_
    rintro e W' ⟨x, g', rfl, k1, k2, k3⟩
    simp only [List.length_append, List.length_cons, List.length_nil, Nat.zero_add] at k3
    exact hn x _ W' (exitR_ok hr k1 k3 k2 hok)

theorem Good.toE {v : SV} {x : Value} {g' : Gh} {W' : World} (h : Good ba σ g tmps W v x g' W') : GoodE ba σ g tmps W v x σ g' W' := ⟨h.rel, h.ext, h.val, rfl⟩

/-- the operations that change -/
theorem eev_ok {T : Tab} {c : CallF} (hc : CW P c) (hp : PrimOk P T) {a : Act} (hr : Rel ba σ g a.tmps W) {op : Op} {vop : VOp} {hpf : Bool} {v : SV} {σ' : St} (dst : Option Tmp) (hop : opOf P hpf op = some vop) (hq : eev T (c ba) ba σ dst vop = some (v, σ'))
    (ty : TypeId) (pos : String) (after : Array Edge) (guard : Option (Nat × Bool)) {next : Act → World → Prop} {Q : Exit → Act → World → Prop}
    (hn : ∀ x g' W', GoodE ba σ g a.tmps W v x σ' g' W' → next (a.put dst x) W') : (⟨dst, op, ty, pos, after, guard⟩ : Oper).wp P a W next Q := by
  have fin : ∀ V g' W', (execOp a.eval ⟨dst, op, ty, pos, after, guard⟩).run P W = .ok (.value V) W' → GoodE ba σ g a.tmps W v V σ' g' W' → (⟨dst, op, ty, pos, after, guard⟩ : Oper).wp P a W next Q :=
    fun V g' W' h1 h2 => wp_val h1 (hn V g' W' h2)
  cases op <;> simp only [opOf, Option.map_eq_some_iff, Option.bind_eq_some_iff, reduceCtorEq] at hop
  case move x =>
    obtain ⟨x', hx, rfl⟩ := hop
    obtain ⟨g', h⟩ := asg_ok (T := T) (cF := c ba) (dst := dst) hr hx hq
    exact fin _ _ _ (by simp [execOp]) h
  case assign x =>
    obtain ⟨x', hx, rfl⟩ := hop
    obtain ⟨g', h⟩ := asg_ok (T := T) (cF := c ba) (dst := dst) hr hx hq
    exact fin _ _ _ (by simp [execOp]) h
  case pick c' x y =>
    obtain ⟨c', hc', x', hx, y', hy, rfl⟩ := hop
    simp [eev] at hq
  case alloc t =>
    obtain ⟨z, hz, hop⟩ := hop
    split at hop
    · rename_i l hl
      subst hop
      simp only [eev] at hq
      rw [← plains_eq hl] at hq
      obtain ⟨X, g', W', h1, h2⟩ := alloc_ok (P := P) hr hz hq (by
        rw [plains_eq hl, List.all_eq_true]
        intro u hu
        obtain ⟨p, _, rfl⟩ := List.mem_map.1 hu
        cases hpf <;> rfl)
      exact fin X g' W' (by simp only [execOp]; rw [Sem.run_bind, h1]; rfl) h2
    · subst hop
      simp only [eev] at hq
      obtain ⟨hok, hq⟩ := ite_some hq
      obtain ⟨X, g', W', h1, h2⟩ := alloc_ok (P := P) hr hz hq hok
      exact fin X g' W' (by simp only [execOp]; rw [Sem.run_bind, h1]; rfl) h2
  case box t x =>
    obtain ⟨n, hn0, x', hx, rfl⟩ := hop
    obtain ⟨X, g', W', h1, h2⟩ := box_ok (P := P) (t := t) hr hx hq
    exact fin X g' W' (by simp only [execOp]; rw [Sem.run_bind, h1]; rfl) h2
  case build t parts =>
    obtain ⟨z, hz, pl, hpl, l, hl, rfl⟩ := hop
    obtain ⟨X, g', h1, h2⟩ := build_own_ok (P := P) hr hz hpl hl hq
    exact fin X g' W (by simp only [execOp]; rw [Sem.run_bind, h1]; rfl) h2
  case buildSlice t len parts =>
    obtain ⟨e, he, s, hs, z, hz, z', hz', hop⟩ := hop
    obtain ⟨hcond, hop⟩ := ite_some hop
    simp only [Option.map_eq_some_iff] at hop
    obtain ⟨l, hl, rfl⟩ := hop
    obtain ⟨X, g', W', h1, h2⟩ := lit_own_ok (P := P) hr he hs hz hz' hcond hl hq
    exact fin X g' W' (by simp only [execOp]; rw [Sem.run_bind, h1]; rfl) h2
  case load t x => obtain ⟨z, hz, x', hx, rfl⟩ := hop; simp [eev] at hq
  case store t ya y =>
    obtain ⟨n, hn0, xa, hxa, x, hx, rfl⟩ := hop
    have hv : v = .undef := by
      simp only [eev] at hq
      split at hq
      · simp only [Option.map_eq_some_iff, Prod.mk.injEq] at hq
        obtain ⟨_, _, h, _⟩ := hq; exact h.symm
      · simp at hq
    obtain ⟨g', W', h1, h2⟩ := store_ok (P := P) hr hxa hx hn0 hq
    have e : (execOp a.eval ⟨dst, .store t ya y, ty, pos, after, guard⟩).run P W = .ok .skip W' := by
      simp only [execOp]; rw [Sem.run_bind, h1]; rfl
    unfold Oper.wp
    rw [e]
    exact hn _ _ _ h2
  case nilCheck x => obtain ⟨x', hx, rfl⟩ := hop; simp [eev] at hq
  case binOp bop t x y t2 => obtain ⟨x', hx, y', hy, rfl⟩ := hop; simp [eev] at hq
  case unOp uop t x => obtain ⟨x', hx, rfl⟩ := hop; simp [eev] at hq
  case convert s d x => obtain ⟨cc, hcc, x', hx, rfl⟩ := hop; simp [eev] at hq
  case makeFunc fn first caps =>
    split at hop
    · obtain ⟨_, hop⟩ := ite_some hop
      simp only [Option.map_eq_some_iff] at hop
      obtain ⟨l, hl, rfl⟩ := hop
      simp [eev] at hq
    · simp at hop
  case makeSlice t len cap =>
    split at hop
    · obtain ⟨_, hop⟩ := ite_some hop
      simp only [Option.bind_eq_some_iff] at hop
      obtain ⟨_, _, _, _, _, _, _, _, _, _, hop⟩ := hop
      obtain ⟨_, hop⟩ := ite_some hop
      simp only [Option.some.injEq] at hop; subst hop
      simp [eev] at hq
    · simp at hop
  case slice t x lo hi mx =>
    split at hop
    · simp only [Option.bind_eq_some_iff, Option.map_eq_some_iff] at hop
      obtain ⟨_, _, _, _, _, _, _, _, _, _, rfl⟩ := hop
      simp [eev] at hq
    · simp only [Option.bind_eq_some_iff, Option.map_eq_some_iff] at hop
      obtain ⟨_, _, _, _, _, _, _, _, rfl⟩ := hop
      simp [eev] at hq
    · simp at hop
  case fieldAddr t x f =>
    obtain ⟨o, ho, n, hn0, hop⟩ := hop
    split at hop
    · simp at hop
    · simp only [Option.map_eq_some_iff] at hop
      obtain ⟨_, _, rfl⟩ := hop
      simp [eev] at hq
  case field t x f => obtain ⟨o, ho, z, hz, x', hx, rfl⟩ := hop; simp [eev] at hq
  case indexAddr t x i =>
    split at hop
    · simp only [Option.bind_eq_some_iff, Option.map_eq_some_iff] at hop
      obtain ⟨_, _, _, _, _, _, rfl⟩ := hop
      simp [eev] at hq
    · simp only [Option.bind_eq_some_iff] at hop
      obtain ⟨_, _, hop⟩ := hop
      split at hop
      · simp at hop
      · simp only [Option.bind_eq_some_iff, Option.map_eq_some_iff] at hop
        obtain ⟨_, _, _, _, rfl⟩ := hop
        simp [eev] at hq
    · simp at hop
  case index t x i =>
    split at hop
    · simp only [Option.bind_eq_some_iff, Option.map_eq_some_iff] at hop
      obtain ⟨_, _, _, _, rfl⟩ := hop
      simp [eev] at hq
    · simp only [Option.bind_eq_some_iff] at hop
      obtain ⟨_, _, hop⟩ := hop
      obtain ⟨_, hop⟩ := ite_some hop
      simp only [Option.bind_eq_some_iff, Option.map_eq_some_iff] at hop
      obtain ⟨_, _, _, _, rfl⟩ := hop
      simp [eev] at hq
    · simp at hop
  case extract x i =>
    obtain ⟨x', hx, rfl⟩ := hop
    obtain ⟨X, g', h1, h2⟩ := ext_own_ok (P := P) hr hx hq
    exact fin X g' W (by simp only [execOp]; rw [Sem.run_bind, h1]; rfl) h2
  case call cc =>
    split at hop
    · rename_i f hcal
      simp only [Option.map_eq_some_iff] at hop
      obtain ⟨l, hl, rfl⟩ := hop
      have hrun : ∀ xs : Array Value, xs = (cc.args.toList.map a.eval).toArray → (execOp a.eval ⟨dst, .call cc, ty, pos, after, guard⟩).run P W = (callFunc f xs).run P W := by
        rintro xs rfl
        simp only [execOp, resolve, hcal, Act.eval, Deferred.ofValue, Sem.run_bind, Sem.run_pure, Result.andThen_ok, invoke]
        congr 2
        rw [← Array.toList_inj]; simp
      simp only [eev] at hq
      split at hq
      · rename_i s F hF
        have := hp _ _ hF
        unfold Oper.wp
        rw [hrun _ rfl]
        exact this ba σ g a W _ l v σ' hr hl hq _ next Q hn
      · simp at hq
      · split at hq
        · simp at hq
        · obtain ⟨hE, hC⟩ := call_ok (P := P) hc hr hl (mv := (T.mv f)) (caps := []) (cs := #[]) rfl (o := fun _ => none) (i := 0) (by simp [SRs]) (f := f) (v := v) (σ' := σ') (by simpa using hq)
          unfold Oper.wp
          rw [hrun _ rfl, hE, Oper.upon_enter]
          simp only [Array.append_empty] at hC
          refine hC.mono ?_
          rintro e W' ⟨x, g', rfl, k⟩
          exact hn x g' W' k
    · rename_i gg hne hcal
      simp only [Option.map_eq_some_iff, Option.bind_eq_some_iff] at hop
      obtain ⟨g', hg', l, hl, rfl⟩ := hop
      simp only [eev] at hq
      obtain ⟨og, hgR⟩ := rd_ok hr hg'
      split at hq
      · rename_i f caps hf
        rw [hf] at hgR
        simp only [SR] at hgR
        obtain ⟨cs, hcs, hcR⟩ := hgR
        split at hq
        · simp at hq
        · rename_i hcond
          have hcap : okMem.okCaps caps = true := by
            cases h : okMem.okCaps caps with
            | true => rfl
            | false => simp [h] at hcond
          obtain ⟨hE, hC⟩ := call_ok (P := P) hc hr hl (mv := []) (caps := caps) (cs := cs) hcap hcR (f := f) (v := v) (σ' := σ') hq
          have hrun : (execOp a.eval ⟨dst, .call cc, ty, pos, after, guard⟩).run P W = (callFunc f ((cc.args.toList.map a.eval).toArray ++ cs)).run P W := by
            simp only [execOp, resolve, hcal, hcs, Deferred.ofValue, Sem.run_bind, Sem.run_pure, Result.andThen_ok, invoke]
            congr 2
            rw [← Array.toList_inj]; simp
          unfold Oper.wp
          rw [hrun, hE, Oper.upon_enter]
          refine hC.mono ?_
          rintro e W' ⟨x, g', rfl, k⟩
          exact hn x g' W' k
      · simp at hq
    · rename_i hcal
      split at hop
      · split at hop
        · simp only [Option.map_eq_some_iff] at hop
          obtain ⟨_, _, rfl⟩ := hop
          simp [eev] at hq
        · simp only [Option.map_eq_some_iff] at hop
          obtain ⟨_, _, rfl⟩ := hop
          simp [eev] at hq
        · simp at hop
      · simp at hop
    · rename_i hcal
      split at hop
      · rename_i t u x y hts hxs
        have e1 : cc.argTypes = #[t, u] := by rw [← Array.toArray_toList (xs := cc.argTypes), hts]
        have e2 : cc.args = #[x, y] := by rw [← Array.toArray_toList (xs := cc.args), hxs]
        simp only [Option.bind_eq_some_iff] at hop
        obtain ⟨e, he, i, hi, z, hz, hop⟩ := hop
        split at hop
        · simp at hop
        rename_i hzl
        have hz1 : z.length = i.size := by
          by_cases h : z.length = i.size
          · exact h
          · exact absurd (Or.inl h) hzl
        have hz2 : i.size ≠ 0 := fun h => hzl (.inr h)
        have hrun : ∀ X W', (Builtin.append_ #[t, u] ty #[a.eval x, a.eval y]).run P W = .ok X W' → (execOp a.eval ⟨dst, .call cc, ty, pos, after, guard⟩).run P W = .ok (.value X) W' := by
          intro X W' h
          simp only [execOp, resolve, hcal, Sem.run_bind, Sem.run_pure, Result.andThen_ok, invoke, builtin, e1, e2]
          rw [show Array.map a.eval #[x, y] = #[a.eval x, a.eval y] by simp, h]
          rfl
        split at hop
        · rename_i e' hu
          simp only [Option.bind_eq_some_iff] at hop
          obtain ⟨s', hs', hop⟩ := hop
          obtain ⟨hcond, hop⟩ := ite_some hop
          simp only [Option.bind_eq_some_iff, Option.map_eq_some_iff] at hop
          obtain ⟨x', hx, y', hy, rfl⟩ := hop
          obtain ⟨X, g', W', h1, h2⟩ := append_ok (P := P) hr hx hy (elemTy_ok he) hi hz hz1 hz2 (str := false) (tx := u) ⟨e', hu⟩ hq ty
          exact fin X g' W' (hrun _ _ h1) h2
        · rename_i hu
          obtain ⟨hcond, hop⟩ := ite_some hop
          simp only [Option.bind_eq_some_iff, Option.map_eq_some_iff] at hop
          obtain ⟨x', hx, y', hy, rfl⟩ := hop
          obtain ⟨X, g', W', h1, h2⟩ := append_ok (P := P) hr hx hy (elemTy_ok he) hi hz hz1 hz2 (str := true) (tx := u) ⟨hu, hcond.1⟩ hq ty
          exact fin X g' W' (hrun _ _ h1) h2
        · simp at hop
      · simp at hop
    · simp only [Option.map_eq_some_iff] at hop
      obtain ⟨_, _, rfl⟩ := hop
      simp [eev] at hq
    · simp only [Option.map_eq_some_iff] at hop
      obtain ⟨_, _, rfl⟩ := hop
      simp [eev] at hq
    · simp at hop

/-- an operation of a region, whatever it is -/
theorem opEv_ok {T : Tab} {c : CallF} (hc : CW P c) (hp : PrimOk P T) {a : Act} (hr : Rel ba σ g a.tmps W) {op : Op} {vop : VOp} {hpf : Bool} {v : SV} {σ' : St} (dst : Option Tmp) (hop : opOf P hpf op = some vop) (hq : opEv T c ba σ dst vop = some (v, σ'))
    (ty : TypeId) (pos : String) (after : Array Edge) (guard : Option (Nat × Bool)) {next : Act → World → Prop} {Q : Exit → Act → World → Prop}
    (hn : ∀ x g' W', GoodE ba σ g a.tmps W v x σ' g' W' → next (a.put dst x) W') : (⟨dst, op, ty, pos, after, guard⟩ : Oper).wp P a W next Q := by
  have hnone : CallQ P ba σ (fun _ _ => none) := by intro f ws args v g tmps W xs _ caps h; simp at h
  unfold opEv at hq
  split at hq
  · rename_i f args
    split at hq
    · simp only [Option.map_eq_some_iff, Prod.mk.injEq] at hq
      obtain ⟨v0, h0, rfl, rfl⟩ := hq
      obtain ⟨g1, a1, a2, a3, a4, a5⟩ := freezeArgs_ok (l := args) hr
      exact qev_ok (callRo_ok hc hp ba _) a1 hop h0 dst ty pos after guard fun x g' W' h => hn x g' W' (GoodE.after (a2 _) (by rw [a4]) h.toE)
    · exact eev_ok hc hp hr dst hop hq ty pos after guard hn
  · rename_i gg args
    split at hq
    · split at hq
      · simp only [Option.map_eq_some_iff, Prod.mk.injEq] at hq
        obtain ⟨v0, h0, rfl, rfl⟩ := hq
        exact qev_ok (callRo_ok hc hp ba σ) hr hop h0 dst ty pos after guard fun x g' W' h => hn x g' W' h.toE
      · exact eev_ok hc hp hr dst hop hq ty pos after guard hn
    · simp at hq
  · split at hq
    · rename_i v0 h0
      simp only [Option.some.injEq, Prod.mk.injEq] at hq
      obtain ⟨rfl, rfl⟩ := hq
      exact qev_ok hnone hr hop h0 dst ty pos after guard fun x g' W' h => hn x g' W' h.toE
    · exact eev_ok hc hp hr dst hop hq ty pos after guard hn
end
end Go.VM

