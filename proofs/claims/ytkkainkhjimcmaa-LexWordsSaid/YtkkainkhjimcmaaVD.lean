import Derived.Laws.IdiomCopy
import Derived.Deep.AppendSrc
import Derived.Laws.AppendOwn
import Derived.Test.YtkkainkhjimcmaaVC
/-
V: cells of an object that are written over.
-/
namespace Go.VM
open Go
set_option linter.unusedVariables false
set_option linter.unusedSimpArgs false

/-- memory behind a write into one block -/
structure Wrote (W W' : World) (b : Nat) (c : Array Value) (T : TypeId) (fr : Nat × Nat) : Prop where
  here : W'.heap[b]? = some (.cells c T fr)
  away : ∀ b', b' ≠ b → W'.heap[b']? = W.heap[b']?
  size : W'.heap.size = W.heap.size
  os : W'.os = W.os
  tape : W'.tape = W.tape
  output : W'.output = W.output

theorem wrote_setCells (b : Nat) (T : TypeId) (fr : Nat × Nat) : ∀ (vs : List Value) (o : Nat) (W : World) (c : Array Value), W.heap[b]? = some (.cells c T fr) → o + vs.length ≤ c.size →
    ∃ c' : Array Value, c'.toList = c.toList.take o ++ (vs ++ c.toList.drop (o + vs.length)) ∧ Wrote W (W.setCells b o vs) b c' T fr
  | [], o, W, c, h, _ => ⟨c, by simp, h, fun _ _ => rfl, rfl, rfl, rfl, rfl⟩
  | v :: r, o, W, c, h, hl => by
    simp only [List.length_cons] at hl
    have hb := lt_of_some h
    have h1 : (W.setCell ⟨b, o, none⟩ v).heap[b]? = some (.cells (c.setIfInBounds o v) T fr) := by
      simp only [World.setCell, Array.getElem?_modify, if_true, h]
      simp
    obtain ⟨c', e1, e2⟩ := wrote_setCells b T fr r (o + 1) (W.setCell ⟨b, o, none⟩ v) (c.setIfInBounds o v) h1 (by simp; omega)
    refine ⟨c', ?_, e2.here, ?_, ?_, e2.os, e2.tape, e2.output⟩
    · rw [e1]
      simp only [Array.toList_setIfInBounds, List.length_cons]
      have hlen : o < c.toList.length := by simp; omega
      rw [List.take_add_one, List.take_set_of_le (Nat.le_refl _), List.getElem?_set_self hlen, List.drop_set_of_lt (by omega)]
      simp
      congr 1
      omega
    · intro b' hb'
      rw [World.setCells, e2.away b' hb']
      simp only [World.setCell, Array.getElem?_modify]
      rw [if_neg (fun e => hb' e.symm)]
    · rw [World.setCells, e2.size]
      simp [World.setCell]

theorem run_storeAt {P : Program} {W : World} {t : TypeId} {n b off : Nat} {X : Value} {c : Array Value} {T : TypeId} {fr : Nat × Nat} (hn : szOf P t = some n) (hX : X.cells.size = n) (hb : W.heap[b]? = some (.cells c T fr)) (hu : Unfr fr c.size)
    (hle : off + n ≤ c.size) (h1 : ∀ v ∈ X.cells.toList, v.oneCell' = true) :
    ∃ (W' : World) (c' : Array Value), (Instr.storeAt t (.pointer (some ⟨b, off, none⟩)) X).run P W = .ok () W' ∧ c'.toList = c.toList.take off ++ (X.cells.toList ++ c.toList.drop (off + n)) ∧ Wrote W W' b c' T fr := by
  obtain ⟨c', e1, e2⟩ := wrote_setCells b T fr X.cells.toList off W c hb (by simpa [hX] using hle)
  refine ⟨_, c', ?_, by simpa [hX] using e1, e2⟩
  have hc : ∀ j, j < X.cells.toList.length → (W.cell? ⟨b, off + 0 + j, none⟩).isSome = true := by
    intro j hj
    rw [cell_of_block hb]
    simp only [Array.length_toList, hX] at hj
    have : off + 0 + j < c.size := by omega
    rw [Array.getElem?_eq_getElem this]; rfl
  have hf : ∀ j, j < X.cells.toList.length → W.frozen? ⟨b, off + 0 + j, none⟩ = false := by
    intro j hj
    simp only [Array.length_toList, hX] at hj
    obtain ⟨lo, hi⟩ := fr
    simp only [World.frozen?, hb, Bool.and_eq_false_iff, decide_eq_false_iff_not]
    rcases hu with hu | hu <;> simp only at hu <;> omega
  have hrun := run_storeCells_cells (P := P) b off X.cells.toList 0 W hc hf h1
  simp only [Instr.storeAt, Instr.sureAddr, Sem.run_bind, Sem.run_pure, Result.andThen_ok, storeVar, run_sizeOf hn, hX]
  simpa using hrun

theorem PR.oneCell {g : Gh} {v : PV} {x : Value} (h : PR g v x) : x.oneCell' = true := by
  cases v <;> simp only [PR] at h
  case int => subst h; rfl
  case bool => subst h; rfl
  case nils => subst h; rfl
  case str => obtain ⟨s, rfl, _⟩ := h; rfl
  case ro => obtain ⟨a, n, c, rfl, _⟩ := h; rfl
theorem okMem_one {cx : Cx} {o : List Nat → Option Owner} {v : SV} {x : Value} (hm : okMem v = true) (hu : isUndef v = false) (h : SR cx o v x) : x.oneCell' = true := by
  cases v with
  | p v => simp only [SR] at h; exact h.oneCell
  | own s es => simp only [SR] at h; obtain ⟨a, n, cap, rfl, _⟩ := h; rfl
  | lent s es => simp only [SR] at h; obtain ⟨a, n, cap, rfl, _⟩ := h; rfl
  | ptr pl => obtain ⟨a, rfl, _⟩ := SR_ptr h (.inr (.inl ⟨_, rfl⟩)); rfl
  | nilp => simp only [SR] at h; subst h; rfl
  | nilf => simp only [SR] at h; subst h; rfl
  | fn f c => simp only [SR] at h; obtain ⟨a, rfl, _⟩ := h; rfl
  | undef => simp [isUndef] at hu
  | _ => simp [okMem] at hm
theorem SRs.oneCells {cx : Cx} : ∀ {i : Nat} {v : List SV} {x : List Value} {o : List Nat → Option Owner}, (∀ u ∈ v, okMem u = true ∧ isUndef u = false) → SRs cx o i v x → ∀ y ∈ x, y.oneCell' = true
  | _, [], [], _, _, _, y, hy => by simp at hy
  | i, v :: vs, x :: xs, o, ho, e, y, hy => by
    simp only [SRs] at e
    rcases List.mem_cons.1 hy with rfl | hy
    · exact okMem_one (ho v (by simp)).1 (ho v (by simp)).2 e.1
    · exact SRs.oneCells (fun u hu => ho u (by simp [hu])) e.2 y hy
  | _, [], _ :: _, _, _, e, _, _ => by simp [SRs] at e
  | _, _ :: _, [], _, _, e, _, _ => by simp [SRs] at e

/-! ### what looks at some cells' slices -/
mutual
def standsP (okP : Root → Nat → Bool) : SV → Bool
  | .al pl _ _ _ => okP pl.root pl.off
  | .ptr pl => !pl.row.isSome || okP pl.root pl.off
  | .fn _ caps => standsPL okP caps
  | .agg cs => standsPL okP cs
  | .tup cs => standsPL okP cs
  | _ => true
def standsPL (okP : Root → Nat → Bool) : List SV → Bool
  | [] => true
  | v :: r => standsP okP v && standsPL okP r
end

def outOf (r : Root) (off n : Nat) (r' : Root) (o' : Nat) : Bool := !(decide (r' = r) && decide (off ≤ o') && decide (o' < off + n))

theorem outOf_iff {r r' : Root} {off n o' : Nat} : outOf r off n r' o' = true ↔ (r' = r → off ≤ o' → o' < off + n → False) := by
  simp only [outOf, Bool.not_eq_true', Bool.and_eq_false_iff, decide_eq_false_iff_not]
  constructor
  · rintro ((h | h) | h) h1 h2 h3
    · exact h h1
    · exact h h2
    · exact h h3
  · intro h
    by_cases h1 : r' = r
    · by_cases h2 : off ≤ o'
      · exact .inr fun h3 => h h1 h2 h3
      · exact .inl (.inr h2)
    · exact .inl (.inl h1)

mutual
theorem killAt_standsP (r : Root) (off n : Nat) : ∀ (v : SV), standsP (outOf r off n) (killAt r off n v) = true
  | .p v => by simp [killAt, standsP]
  | .pagg cs => by simp [killAt, standsP]
  | .own s es => by simp [killAt, standsP]
  | .lent s es => by simp [killAt, standsP]
  | .al pl s lo m => by
    simp only [killAt]; split
    · simp [standsP]
    · rename_i h; simp only [standsP]; rw [outOf_iff]; exact fun h1 h2 h3 => h ⟨h1, h2, h3⟩
  | .ptr pl => by
    simp only [killAt]; split
    · simp [standsP]
    · rename_i h
      simp only [standsP, Bool.or_eq_true, Bool.not_eq_true']
      by_cases hs : pl.row.isSome = true
      · right; rw [outOf_iff]; exact fun h1 h2 h3 => h ⟨hs, h1, h2, h3⟩
      · left; simpa using hs
  | .cptr cs => by simp [killAt, standsP]
  | .nilp => by simp [killAt, standsP]
  | .fn f c => by simp only [killAt, standsP]; exact killAtL_standsP r off n c
  | .nilf => by simp [killAt, standsP]
  | .undef => by simp [killAt, standsP]
  | .agg cs => by simp only [killAt, standsP]; exact killAtL_standsP r off n cs
  | .tup cs => by simp only [killAt, standsP]; exact killAtL_standsP r off n cs
theorem killAtL_standsP (r : Root) (off n : Nat) : ∀ (v : List SV), standsPL (outOf r off n) (killAtL r off n v) = true
  | [] => by simp [killAtL, standsPL]
  | v :: vs => by simp only [killAtL, standsPL, Bool.and_eq_true]; exact ⟨killAt_standsP r off n v, killAtL_standsP r off n vs⟩
end

mutual
theorem killAt_less {cx : Cx} (r : Root) (off n : Nat) : ∀ {v : SV} {x : Value} {o : List Nat → Option Owner}, SR cx o v x → SR cx o (killAt r off n v) x
  | .p v, x, o, e => by simpa [killAt] using e
  | .pagg cs, x, o, e => by simpa [killAt] using e
  | .own s es, x, o, e => by simpa [killAt] using e
  | .lent s es, x, o, e => by simpa [killAt] using e
  | .al pl s lo n', x, o, e => by
    simp only [killAt]; split
    · simp [SR]
    · exact e
  | .ptr pl, x, o, e => by
    simp only [killAt]; split
    · simp [SR]
    · exact e
  | .cptr cs, x, o, e => by simpa [killAt] using e
  | .nilp, x, o, e => by simpa [killAt] using e
  | .fn f c, x, o, e => by simp only [killAt, SR] at e ⊢; obtain ⟨a, h1, h2⟩ := e; exact ⟨a, h1, killAtL_less r off n h2⟩
  | .nilf, x, o, e => by simpa [killAt] using e
  | .undef, x, o, e => by simpa [killAt] using e
  | .agg cs, x, o, e => by simp only [killAt, SR] at e ⊢; obtain ⟨a, h1, h2⟩ := e; exact ⟨a, h1, killAtL_less r off n h2⟩
  | .tup cs, x, o, e => by simp only [killAt, SR] at e ⊢; obtain ⟨a, h1, h2⟩ := e; exact ⟨a, h1, killAtL_less r off n h2⟩
theorem killAtL_less {cx : Cx} (r : Root) (off n : Nat) : ∀ {i : Nat} {v : List SV} {x : List Value} {o : List Nat → Option Owner}, SRs cx o i v x → SRs cx o i (killAtL r off n v) x
  | _, [], [], _, _ => by simp [killAtL, SRs]
  | i, v :: vs, x :: xs, o, e => by simp only [SRs, killAtL] at e ⊢; exact ⟨killAt_less r off n e.1, killAtL_less r off n e.2⟩
  | _, [], _ :: _, _, e => by simp [SRs] at e
  | _, _ :: _, [], _, e => by simp [SRs] at e
end
theorem killAt_undef (r : Root) (off n : Nat) : killAt r off n .undef = .undef := by simp [killAt]
theorem isOwn_killAt (r : Root) (off n : Nat) (v : SV) : isOwn (killAt r off n v) = isOwn v := by
  cases v with
  | al pl s lo m => unfold killAt; by_cases h : pl.root = r ∧ off ≤ pl.off ∧ pl.off < off + n <;> simp [h, isOwn]
  | ptr pl => unfold killAt; by_cases h : pl.row.isSome ∧ pl.root = r ∧ off ≤ pl.off ∧ pl.off < off + n <;> simp [h, isOwn]
  | _ => simp [killAt, isOwn]

-- where cells hold no slice nobody looks at one there
mutual
theorem scalar_standsP {cx : Cx} {r : Root} {off n : Nat} (hs : ∀ pl, pl.root = r → off ≤ pl.off → pl.off < off + n → ∀ a m cap, hdr cx pl ≠ some (.slice (some a) m cap)) : ∀ {v : SV} {x : Value} {o : List Nat → Option Owner}, SR cx o v x → standsP (outOf r off n) v = true
  | .p v, x, o, e => by simp [standsP]
  | .pagg cs, x, o, e => by simp [standsP]
  | .own s es, x, o, e => by simp [standsP]
  | .lent s es, x, o, e => by simp [standsP]
  | .al pl s lo n', x, o, e => by
    simp only [SR, AlR] at e
    obtain ⟨_, a, m, cap, b, cap', hh, _⟩ := e
    simp only [standsP]
    rw [outOf_iff]
    exact fun h1 h2 h3 => hs pl h1 h2 h3 a m cap hh
  | .ptr pl, x, o, e => by
    simp only [SR, PtrR] at e
    simp only [standsP, Bool.or_eq_true, Bool.not_eq_true']
    split at e
    · rename_i hrow; left; simp [hrow]
    · rename_i s e' o' hrow
      obtain ⟨a, m, cap, hh, _⟩ := e
      right
      rw [outOf_iff]
      exact fun h1 h2 h3 => hs _ h1 h2 h3 a m cap hh
  | .cptr cs, x, o, e => by simp [standsP]
  | .nilp, x, o, e => by simp [standsP]
  | .fn f c, x, o, e => by simp only [standsP, SR] at e ⊢; obtain ⟨a, h1, h2⟩ := e; exact scalar_standsPL hs h2
  | .nilf, x, o, e => by simp [standsP]
  | .undef, x, o, e => by simp [standsP]
  | .agg cs, x, o, e => by simp only [standsP, SR] at e ⊢; obtain ⟨a, h1, h2⟩ := e; exact scalar_standsPL hs h2
  | .tup cs, x, o, e => by simp only [standsP, SR] at e ⊢; obtain ⟨a, h1, h2⟩ := e; exact scalar_standsPL hs h2
theorem scalar_standsPL {cx : Cx} {r : Root} {off n : Nat} (hs : ∀ pl, pl.root = r → off ≤ pl.off → pl.off < off + n → ∀ a m cap, hdr cx pl ≠ some (.slice (some a) m cap)) : ∀ {i : Nat} {v : List SV} {x : List Value} {o : List Nat → Option Owner}, SRs cx o i v x → standsPL (outOf r off n) v = true
  | _, [], [], _, _ => by simp [standsPL]
  | i, v :: vs, x :: xs, o, e => by simp only [SRs, standsPL, Bool.and_eq_true] at e ⊢; exact ⟨scalar_standsP hs e.1, scalar_standsPL hs e.2⟩
  | _, [], _ :: _, _, e => by simp [SRs] at e
  | _, _ :: _, [], _, e => by simp [SRs] at e
end

mutual
theorem SR.frameP {okP : Root → Nat → Bool} {K : Option Owner → Prop} {cx cx' : Cx} (h : Fr K cx cx') (hd : ∀ pl a m cap, okP pl.root pl.off = true → hdr cx pl = some (.slice (some a) m cap) → hdr cx' pl = some (.slice (some a) m cap)) :
    ∀ {v : SV} {x : Value} {o : List Nat → Option Owner}, (∀ π, K (o π)) → standsP okP v = true → SR cx o v x → SR cx' o v x
  | .p v, x, o, ho, hs, e => by simp only [SR] at e ⊢; exact PR.mono h.gle _ _ e
  | .pagg cs, x, o, ho, hs, e => by simp only [SR] at e ⊢; obtain ⟨a, h1, h2⟩ := e; exact ⟨a, h1, PRs.mono h.gle _ _ h2⟩
  | .own s es, x, o, ho, hs, e => SR.frameM h ho (v := .own s es) rfl e
  | .lent s es, x, o, ho, hs, e => SR.frameM h ho (v := .lent s es) rfl e
  | .al pl s lo n, x, o, ho, hs, e => by
    simp only [SR, standsP] at e hs ⊢
    obtain ⟨h0, a, m, cap, b, cap', h1, h2⟩ := e
    exact ⟨h0, a, m, cap, b, cap', hd _ _ _ _ hs h1, h2⟩
  | .ptr pl, x, o, ho, hs, e => by
    simp only [SR, PtrR, standsP, Bool.or_eq_true, Bool.not_eq_true'] at e hs ⊢
    split at e
    · next hrow => obtain ⟨h1, b, h2, h3⟩ := e; exact ⟨h1, b, h.blk _ _ h2, h3⟩
    · next s e' o' hrow =>
      obtain ⟨a, m, cap, h1, h2⟩ := e
      have : okP pl.root pl.off = true := by rcases hs with hs | hs; · simp [hrow] at hs
                                             · exact hs
      exact ⟨a, m, cap, hd _ _ _ _ this h1, h2⟩
  | .cptr cs, x, o, ho, hs, e => by
    simp only [SR] at e ⊢
    obtain ⟨b, off, c, h1, h2, h3⟩ := e
    exact ⟨b, off, c, h1, h.gle.stab _ _ h2, PRs.mono h.gle _ _ h3⟩
  | .nilp, x, o, ho, hs, e => by simpa [SR] using e
  | .fn f caps, x, o, ho, hs, e => by
    simp only [SR, standsP] at e hs ⊢
    obtain ⟨a, h1, h2⟩ := e
    exact ⟨a, h1, SRs.frameP h hd (fun _ => h.none) hs h2⟩
  | .nilf, x, o, ho, hs, e => by simpa [SR] using e
  | .undef, x, o, ho, hs, e => by simp [SR]
  | .agg cs, x, o, ho, hs, e => by
    simp only [SR, standsP] at e hs ⊢
    obtain ⟨a, h1, h2⟩ := e
    exact ⟨a, h1, SRs.frameP h hd ho hs h2⟩
  | .tup cs, x, o, ho, hs, e => by
    simp only [SR, standsP] at e hs ⊢
    obtain ⟨a, h1, h2⟩ := e
    exact ⟨a, h1, SRs.frameP h hd ho hs h2⟩
theorem SRs.frameP {okP : Root → Nat → Bool} {K : Option Owner → Prop} {cx cx' : Cx} (h : Fr K cx cx') (hd : ∀ pl a m cap, okP pl.root pl.off = true → hdr cx pl = some (.slice (some a) m cap) → hdr cx' pl = some (.slice (some a) m cap)) :
    ∀ {i : Nat} {v : List SV} {x : List Value} {o : List Nat → Option Owner}, (∀ π, K (o π)) → standsPL okP v = true → SRs cx o i v x → SRs cx' o i v x
  | _, [], [], _, _, _, _ => by simp [SRs]
  | i, v :: vs, x :: xs, o, ho, hs, e => by
    simp only [SRs, standsPL, Bool.and_eq_true] at e hs ⊢
    exact ⟨SR.frameP h hd (fun π => ho _) hs.1 e.1, SRs.frameP h hd ho hs.2 e.2⟩
  | _, [], _ :: _, _, _, _, e => by simp [SRs] at e
  | _, _ :: _, [], _, _, _, e => by simp [SRs] at e
end

/-- frames of cells, index by index -/
theorem SRs.frameI {K : Option Owner → Prop} {cx cx' : Cx} (h : Fr K cx cx') : ∀ {i : Nat} {v : List SV} {x : List Value} {o : List Nat → Option Owner}, (∀ j, i ≤ j → j < i + v.length → ∀ π, K (o (j :: π))) → v.all okMem = true → SRs cx o i v x → SRs cx' o i v x
  | _, [], [], _, _, _, _ => by simp [SRs]
  | i, v :: vs, x :: xs, o, ho, hm, e => by
    simp only [SRs, List.all_cons, Bool.and_eq_true, List.length_cons] at e hm ho ⊢
    exact ⟨SR.frameM h (fun π => ho i (Nat.le_refl _) (by omega) π) hm.1 e.1, SRs.frameI h (fun j h1 h2 π => ho j (by omega) (by omega) π) hm.2 e.2⟩
  | _, [], _ :: _, _, _, _, e => by simp [SRs] at e
  | _, _ :: _, [], _, _, _, e => by simp [SRs] at e
theorem SRs.congrX {cx : Cx} : ∀ {i : Nat} {v : List SV} {x : List Value} {o o' : List Nat → Option Owner}, (∀ j, v[j]? = some .undef ∨ ∀ π, o ((i + j) :: π) = o' ((i + j) :: π)) → SRs cx o i v x → SRs cx o' i v x
  | _, [], [], _, _, _, _ => by simp [SRs]
  | i, v :: vs, x :: xs, o, o', ho, e => by
    simp only [SRs] at e ⊢
    refine ⟨?_, SRs.congrX (fun j => ?_) e.2⟩
    · rcases ho 0 with h | h
      · simp at h; subst h; simp [SR]
      · have : (fun π => o (i :: π)) = fun π => o' (i :: π) := funext fun π => by simpa using h π
        rw [← this]; exact e.1
    · have := ho (j + 1)
      simpa [Nat.add_assoc, Nat.add_comm 1 j] using this
  | _, [], _ :: _, _, _, _, e => by simp [SRs] at e
  | _, _ :: _, [], _, _, _, e => by simp [SRs] at e

theorem SRs.undefs {cx : Cx} {o : List Nat → Option Owner} : ∀ (x : List Value) (i : Nat), SRs cx o i (List.replicate x.length .undef) x
  | [], i => by simp [SRs]
  | x :: xs, i => by simp only [List.length_cons, List.replicate_succ, SRs]; exact ⟨by simp [SR], SRs.undefs xs (i + 1)⟩
end Go.VM

/-
V: stores into objects.
-/
namespace Go.VM
open Go
set_option linter.unusedVariables false
set_option linter.unusedSimpArgs false

section
variable {P : Program} {ba : Ba} {σ : St} {g : Gh} {tmps : Array Value} {W : World}

structure SetAt (σ σ' : St) (r : Root) (o : Obj) : Prop where
  env : σ'.env = σ.env
  hp : σ'.hp.length = σ.hp.length
  out : σ'.out.length = σ.out.length
  here : σ'.obj r = some o
  away : ∀ r', isSl r' = false → r' ≠ r → σ'.obj r' = σ.obj r'

theorem setObj_ok {σ σ' : St} {r : Root} {o ob : Obj} (hs : isSl r = false) (h0 : σ.obj r = some ob) (h : σ.setObj r o = some σ') : SetAt σ σ' r o := by
  cases r with
  | sl k => simp [isSl] at hs
  | hp i =>
    simp only [St.setObj, Option.some.injEq] at h
    subst h
    simp only [St.obj] at h0
    obtain ⟨hi, _⟩ := List.getElem?_eq_some_iff.1 h0
    refine ⟨rfl, by simp, rfl, by simp [St.obj, hi], fun r' hs' hne => ?_⟩
    cases r' with
    | sl k => simp [isSl] at hs'
    | st d k => rfl
    | hp j =>
      simp only [St.obj]
      rw [List.getElem?_set_ne]
      intro e; exact hne (by rw [e])
  | st d k =>
    simp only [St.setObj] at h
    split at h
    · rename_i hd
      simp only [Option.some.injEq] at h
      subst h
      refine ⟨rfl, rfl, rfl, by simp [St.obj, hd, getD_put], fun r' hs' hne => ?_⟩
      cases r' with
      | sl k => simp [isSl] at hs'
      | hp j => rfl
      | st e j =>
        simp only [St.obj]
        by_cases he : e = σ.out.length
        · rw [if_pos he, if_pos he, getD_put, if_neg]
          intro e'; exact hne (by rw [he, e', hd])
        · rw [if_neg he, if_neg he]
    · rename_i hd
      simp only [Option.map_eq_some_iff] at h
      obtain ⟨f, hf, rfl⟩ := h
      obtain ⟨hlt, _⟩ := List.getElem?_eq_some_iff.1 hf
      refine ⟨rfl, rfl, by simp, ?_, fun r' hs' hne => ?_⟩
      · simp only [St.obj, List.length_set, if_neg hd]
        rw [List.getElem?_set_self hlt]
        simp [getD_put]
      · cases r' with
        | sl k => simp [isSl] at hs'
        | hp j => rfl
        | st e j =>
          simp only [St.obj, List.length_set]
          by_cases he : e = σ.out.length
          · rw [if_pos he, if_pos he]
          · rw [if_neg he, if_neg he]
            by_cases hed : e = d
            · subst hed
              rw [List.getElem?_set_self hlt, hf]
              simp only [Option.map_some, getD_put]
              rw [if_neg]
              intro e'; exact hne (by rw [e'])
            · rw [List.getElem?_set_ne (fun h => hed h.symm)]

theorem setObj_some {σ : St} {r : Root} {ob : Obj} (hs : isSl r = false) (h0 : σ.obj r = some ob) (o : Obj) : ∃ σ', σ.setObj r o = some σ' := by
  cases r with
  | sl k => simp [isSl] at hs
  | hp i => exact ⟨_, rfl⟩
  | st d k =>
    simp only [St.setObj, St.obj] at h0 ⊢
    split
    · exact ⟨_, rfl⟩
    · rename_i hd
      rw [if_neg hd] at h0
      simp only [Option.map_eq_some_iff] at h0
      obtain ⟨f, hf, _⟩ := h0
      exact ⟨_, by rw [hf]; rfl⟩

theorem Rel.setObj {σ' : St} {r : Root} {o : Obj} (hr : Rel ba σ g tmps W) (hs : isSl r = false) (h : SetAt σ σ' r o) (hO : o ≠ [] → ObR ⟨g, W, tmps, σ.env⟩ ba r o) : Rel ba σ' g tmps W where
  env := by rw [h.env]; exact hr.env
  mem r' ob' hs' ho hne := by
    rw [h.env]
    by_cases e : r' = r
    · subst e
      rw [h.here] at ho
      simp only [Option.some.injEq] at ho
      subst ho
      exact hO hne
    · rw [h.away r' hs' e] at ho
      exact hr.mem r' ob' hs' ho hne
  stab := hr.stab
  alive := hr.alive
  perm := hr.perm
  base := by rw [h.hp, h.out]; exact hr.base
  hpIn := by rw [h.hp]; exact hr.hpIn
  stIn := by rw [h.out]; exact hr.stIn
  lt := hr.lt
  inj := hr.inj
  kind := hr.kind

theorem SRs.forget {cx : Cx} {o : List Nat → Option Owner} {v : List SV} {x : List Value} (off n : Nat) (hle : off + n ≤ v.length) (h : SRs cx o 0 v x) : SRs cx o 0 (v.take off ++ (List.replicate n .undef ++ v.drop (off + n))) x := by
  have hl := SRs.length h
  have e : x = x.take off ++ ((x.drop off).take n ++ x.drop (off + n)) := by
    rw [← List.drop_drop, List.take_append_drop, List.take_append_drop]
  rw [e]
  have h1 : (v.take off).length = off := by rw [List.length_take]; omega
  refine SRs.append (SRs.take _ h) ?_
  rw [h1, Nat.zero_add]
  have h2 : ((x.drop off).take n).length = n := by rw [List.length_take, List.length_drop]; omega
  have h3 := SRs.undefs (cx := cx) (o := o) ((x.drop off).take n) off
  rw [h2] at h3
  refine SRs.append h3 ?_
  rw [List.length_replicate]
  have := SRs.drop (off + n) h
  rwa [Nat.zero_add] at this

theorem ObR.forget {cx : Cx} {r : Root} {ob : Obj} (off n : Nat) (hle : off + n ≤ ob.length) (h : ObR cx ba r ob) : ObR cx ba r (ob.take off ++ (List.replicate n .undef ++ ob.drop (off + n))) := by
  obtain ⟨b, c, T, fr, h1, h2, h3, h4, h5, h6⟩ := h
  refine ⟨b, c, T, fr, h1, h2, h3, h4, SRs.forget off n hle h5, ?_⟩
  rw [List.all_eq_true] at h6 ⊢
  intro v hv
  rcases List.mem_append.1 hv with hv | hv
  · exact h6 v (List.mem_of_mem_take hv)
  · rcases List.mem_append.1 hv with hv | hv
    · rw [List.eq_of_mem_replicate hv]; rfl
    · exact h6 v (List.mem_of_mem_drop hv)

/-- some cells of an object written over, that nobody looks at -/
theorem Rel.writeObj {σ' : St} {r : Root} {ob cs : Obj} {off n b : Nat} {c c' : Array Value} {T : TypeId} {fr : Nat × Nat} {W' : World} {xs : List Value} (hr : Rel ba σ g tmps W) (hs : isSl r = false) (hw : writable ba r = true) (hob : σ.obj r = some ob) (hn0 : n ≠ 0) (hle : off + n ≤ ob.length)
    (hb : g.blk r = some b) (hc : W.heap[b]? = some (.cells c T fr)) (hW : Wrote W W' b c' T fr) (hc' : c'.toList = c.toList.take off ++ (xs ++ c.toList.drop (off + n))) (hcs : cs.length = n) (hst : ∀ k, standsP (outOf r off n) (getD .undef σ.env k) = true)
    (hv : SRs ⟨g, W, tmps, σ.env⟩ (fun π => some (.cell r π)) off cs xs) (hok : cs.all (okAt r) = true) (hset : SetAt σ σ' r (ob.take off ++ (cs ++ ob.drop (off + n)))) :
    Rel ba σ' g tmps W' ∧ ∀ d, Ext d g g W W' := by
  have hne : ob ≠ [] := by intro e; rw [e] at hle; simp at hle; omega
  obtain ⟨b0, c0, T0, fr0, h1, h2, h3, h4, h5, h6⟩ := hr.mem r ob hs hob hne
  simp only at h1 h2 h4
  rw [hb] at h1; simp only [Option.some.injEq] at h1; subst h1
  rw [hc] at h2; simp only [Option.some.injEq, Obj.cells.injEq] at h2
  obtain ⟨rfl, rfl, rfl⟩ := h2
  have hown : g.own b = some (.obj r) := by rw [h4]; simp [ownerOf, hw]
  have hlc := SRs.length h5
  simp only [Array.length_toList] at hlc
  have hxs := SRs.length hv
  have hF : Fr (fun o => o ≠ some (.obj r)) ⟨g, W, tmps, σ.env⟩ ⟨g, W', tmps, σ'.env⟩ := ⟨⟨fun _ _ h => h, fun _ h => h⟩, fun _ _ h => h, fun b' _ hk => ⟨hW.away b' (fun e => hk (by rw [e]; exact hown)), rfl⟩, by simp⟩
  have hsz : c'.size = c.size := by
    have := congrArg List.length hc'
    simp only [Array.length_toList, List.length_append, List.length_take, List.length_drop] at this
    omega
  have hcell : ∀ j, ¬ (off ≤ j ∧ j < off + n) → c'[j]? = c[j]? := by
    intro j hj
    have : c'.toList[j]? = c.toList[j]? := by
      rw [hc']
      have ht : (c.toList.take off).length = off := by rw [List.length_take, Array.length_toList]; omega
      by_cases h : j < off
      · rw [List.getElem?_append_left (by omega), List.getElem?_take, if_pos h]
      · rw [List.getElem?_append_right (by omega), List.getElem?_append_right (by omega), List.getElem?_drop]
        congr 1; omega
    simpa using this
  have hd : ∀ pl a m cap, outOf r off n pl.root pl.off = true → hdr ⟨g, W, tmps, σ.env⟩ pl = some (.slice (some a) m cap) → hdr ⟨g, W', tmps, σ'.env⟩ pl = some (.slice (some a) m cap) := by
    intro pl a m cap hP h
    cases hroot : pl.root with
    | sl k => simp only [hdr, hroot, hset.env] at h ⊢; exact h
    | hp i | st d i =>
      all_goals
        simp only [hdr, hroot, Option.bind_eq_some_iff] at h ⊢
        obtain ⟨b', e1, e2⟩ := h
        refine ⟨b', e1, ?_⟩
        by_cases hbb : b' = b
        · subst hbb
          have hrr := hr.inj _ _ _ e1 hb
          rw [cell_of_block hc] at e2
          rw [cell_of_block hW.here, hcell]
          · exact e2
          · rw [outOf_iff] at hP
            intro ⟨q1, q2⟩
            exact hP (by rw [hroot, hrr]) q1 q2
        · simp only [World.cell?] at e2 ⊢
          rw [hW.away b' hbb]
          exact e2
  refine ⟨⟨fun k => ?_, ?_, ?_, ?_, hr.perm, ?_, ?_, ?_, ?_, hr.inj, hr.kind⟩, fun d => ⟨by rw [hW.size]; exact Nat.le_refl _, fun b' _ h => ⟨h, hW.away b' (fun e => by rw [e, hown] at h; simp at h)⟩, fun _ _ h => h, fun _ h => h, fun _ h => .inl h, fun _ _ _ h => h, fun _ _ h => .inl h, hW.os, hW.tape, hW.output⟩⟩
  · have hk := hst k
    have := SR.frameP hF hd (o := slotO k) (fun π => by simp [slotO]) hk (hr.env k)
    rw [hset.env] at this ⊢
    exact this
  · intro r' ob' hs' ho hne'
    by_cases e : r' = r
    · subst e
      rw [hset.here] at ho
      simp only [Option.some.injEq] at ho
      subst ho
      refine ⟨b, c', T, fr, hb, hW.here, by rw [hsz]; exact h3, h4, ?_, ?_⟩
      · have ho' : (fun π => ownerOf ba r' (.cell r' π)) = fun π => some (.cell r' π) := by funext π; simp [ownerOf, hw]
        rw [ho'] at h5 ⊢
        have hK : ∀ π, (fun o => o ≠ some (Owner.obj r')) ((fun π => some (Owner.cell r' π)) π) := fun π => by simp
        have hm : ∀ l : List SV, l.all (okAt r') = true → l.all okMem = true := fun l h => okAt_all h
        rw [hc']
        have hsub : ∀ l : List SV, (∀ v ∈ l, v ∈ ob) → l.all okMem = true := by
          intro l hl
          rw [List.all_eq_true] at h6 ⊢
          exact fun v hv => okAt_mem (h6 v (hl v hv))
        have ht : (ob.take off).length = off := by rw [List.length_take]; omega
        refine SRs.append (SRs.frameM hF hK (hsub _ fun v hv => List.mem_of_mem_take hv) (SRs.take off h5)) ?_
        rw [ht, Nat.zero_add]
        refine SRs.append (SRs.frameM hF hK (hm _ hok) hv) ?_
        rw [hcs]
        have := SRs.drop (off + n) h5
        rw [Nat.zero_add] at this
        exact SRs.frameM hF hK (hsub _ fun v hv => List.mem_of_mem_drop hv) this
      · rw [List.all_eq_true] at h6 hok ⊢
        intro v hv
        rcases List.mem_append.1 hv with hv | hv
        · exact h6 v (List.mem_of_mem_take hv)
        · rcases List.mem_append.1 hv with hv | hv
          · exact hok v hv
          · exact h6 v (List.mem_of_mem_drop hv)
    · rw [hset.away r' hs' e] at ho
      refine ObR.frame hF (fun π => by simp) ?_ (hr.mem r' ob' hs' ho hne')
      simp only [ne_eq, Option.some.injEq, Owner.obj.injEq]
      exact e
  · intro b' c1 h
    obtain ⟨k1, k2⟩ := hr.stab b' c1 h
    refine ⟨k1, ?_⟩
    rw [cellsAt_of_heap (hW.away b' (fun e => by rw [e, hown] at k1; simp at k1))]
    exact k2
  · intro b' h
    rw [hW.size] at h
    exact hr.alive b' h
  · rw [hset.hp, hset.out]; exact hr.base
  · rw [hset.hp]; exact hr.hpIn
  · rw [hset.out]; exact hr.stIn
  · intro r' b' h; rw [hW.size]; exact hr.lt r' b' h

/-- a slice's part, by its header -/
theorem al_own {cx : Cx} {ow : Option Owner} {s lo n : Nat} {es : List (List PV)} {a b : Addr} {m cap cap' : Nat} (h : OwnR cx ow s es (.slice (some a) m cap)) (h3 : lo + n ≤ m) (h5 : n ≤ cap') (h6 : b.spot = none)
    (h7 : cap' = 0 ∨ (b.block = a.block ∧ b.off = a.off + lo * s ∧ lo + cap' = cap)) : OwnR cx ow s ((es.drop lo).take n) (.slice (some b) n cap') := by
  obtain ⟨a', n', cp, hx, e1, e2, e3, e4, e5⟩ := h
  simp only [Value.slice.injEq, Option.some.injEq] at hx
  obtain ⟨rfl, rfl, rfl⟩ := hx
  refine ⟨b, n, cap', rfl, by simp; omega, h5, h6, (e4.drop lo).take n, ?_⟩
  rcases h7 with h7 | ⟨h8, h9, h10⟩
  · exact .inl h7
  rcases e5 with e5 | ⟨c, T, fr, f1, f2, f3, f4, f5⟩
  · left; omega
  right
  refine ⟨c, T, fr, by rw [h8]; exact f1, f2, by rw [h8]; exact f3, ?_, ?_⟩
  · have := Nat.mul_le_mul_right s (Nat.le_of_eq h10)
    rw [Nat.add_mul] at this
    rw [h9]; omega
  · have := PRss.take n (PRss.drop lo e4 f5)
    rw [List.drop_drop] at this
    rw [h9]; exact this

/-- the cell's own slice becomes a slot's -/
def fResc (r : Root) (off : Nat) (t : List Nat → Owner) : Owner → Owner
  | .cell r' (i :: π) => if r' = r ∧ i = off then t π else .cell r' (i :: π)
  | o => o

theorem Rel.rescueCell {r : Root} {ob : Obj} {off : Nat} {t : List Nat → Owner} (hr : Rel ba σ g tmps W) (hs : isSl r = false) (hw : writable ba r = true) (hob : σ.obj r = some ob) (hu : ob[off]? = some .undef) : Rel ba σ (g.name (fResc r off t)) tmps W where
  env j := by
    have h := SR.name (cx := ⟨g, W, tmps, σ.env⟩) (cx' := ⟨g.name (fResc r off t), W, tmps, σ.env⟩) (f := fResc r off t) rfl rfl (fun pl x e => by rw [hdr_name]; exact e) (hr.env j)
    have : (fun π => (slotO j π).map (fResc r off t)) = slotO j := by
      funext π
      have : ¬ (.sl j) = r := by intro e; rw [← e] at hs; simp [isSl] at hs
      cases π <;> simp [slotO, fResc, this]
    rwa [this] at h
  mem r' ob' hs' ho hne := by
    obtain ⟨b, c, T, fr, h1, h2, h3, h4, h5, h6⟩ := hr.mem r' ob' hs' ho hne
    have h7 := SRs.name (cx := ⟨g, W, tmps, σ.env⟩) (cx' := ⟨g.name (fResc r off t), W, tmps, σ.env⟩) (f := fResc r off t) rfl rfl (fun pl x e => by rw [hdr_name]; exact e) h5
    refine ⟨b, c, T, fr, h1, h2, h3, ?_, ?_, h6⟩
    · show (g.own b).map _ = _
      simp only at h4
      rw [h4]; unfold ownerOf; split <;> rfl
    · refine SRs.congrX (fun j => ?_) h7
      by_cases e : r' = r ∧ j = off
      · left
        obtain ⟨rfl, rfl⟩ := e
        rw [ho] at hob; simp only [Option.some.injEq] at hob; subst hob
        exact hu
      · right
        intro π
        unfold ownerOf
        split
        · simp only [Option.map_some, fResc, Nat.zero_add]
          rw [if_neg e]
        · rfl
  stab b c h := by
    obtain ⟨h1, h2⟩ := hr.stab b c h
    exact ⟨by simp [Gh.name, h1], h2⟩
  alive b h := by
    obtain ⟨h1, h2⟩ := hr.alive b h
    exact ⟨by simp [Gh.name, h1], h2⟩
  perm := hr.perm
  base := hr.base
  hpIn := hr.hpIn
  stIn := hr.stIn
  lt := hr.lt
  inj := hr.inj
  kind r' b hs' h := by
    rcases hr.kind r' b hs' h with e | e
    · left; simp [Gh.name, e]
    · right; simp [Gh.name, e, fResc]
end
end Go.VM

/-
V: stores into objects, whole.
-/
namespace Go.VM
open Go
set_option linter.unusedVariables false
set_option linter.unusedSimpArgs false

section
variable {P : Program} {ba : Ba} {σ : St} {g : Gh} {tmps : Array Value} {W : World}

theorem source_eq {a : Act} (hr : Rel ba σ g a.tmps W) {y : Operand} {x : Opd} (hx : opdOf y = some x) {j s : Nat} {es : List (List PV)} (h : source σ x = .t j) (hj : getD .undef σ.env j = .own s es) (hne : es ≠ []) : a.eval y = a.tmps.getD j undef := by
  unfold source at h
  cases x with
  | c v => simp at h
  | t k =>
    have hy : y = .tmp k := by cases y <;> simp [opdOf] at hx ⊢ <;> first | exact hx | skip
    subst hy
    simp only at h
    split at h
    case h_2 => simp only [Opd.t.injEq] at h; subst h; rfl
    rename_i j' s0 n hk
    split at h
    case h_2 => simp only [Opd.t.injEq] at h; subst h; rfl
    rename_i s1 es1 hj'
    split at h
    case isFalse => simp only [Opd.t.injEq] at h; subst h; rfl
    rename_i hn
    simp only [Opd.t.injEq] at h; subst h
    rw [hj] at hj'
    simp only [SV.own.injEq] at hj'
    obtain ⟨rfl, rfl⟩ := hj'
    have h1 := hr.env k
    rw [hk] at h1
    simp only [SR, AlR] at h1
    obtain ⟨_, ad, m, cap, b, cap', hh, ha, h3, h4, hX, h5, h6, h7⟩ := h1
    simp only [hdr, hj, isOwn, and_self, if_true] at hh
    have h2 := hr.env j'
    rw [hj] at h2
    have hg : a.tmps.getD j' undef = .slice (some ad) m cap := by simp [Array.getD_eq_getD_getElem?, hh]
    rw [hg] at h2 ⊢
    simp only [SR, OwnR] at h2
    obtain ⟨a', n', cp, hx', e1, e2, e3, _⟩ := h2
    simp only [Value.slice.injEq, Option.some.injEq] at hx'
    obtain ⟨rfl, rfl, rfl⟩ := hx'
    simp only [Act.eval, hX]
    have : es.length ≠ 0 := by simpa using hne
    rcases h7 with h7 | ⟨h8, h9, h10⟩
    · omega
    · have hb : b = ad := by
        rw [addr_eta h6, addr_eta e3, h8, h9]; simp
      rw [hb, show cap' = cap by omega, show n = m by omega]

theorem obj_env {e : List (Nat × SV)} {r : Root} (h : isSl r = false) : ({ σ with env := e } : St).obj r = σ.obj r := by
  cases r with
  | sl k => simp [isSl] at h
  | hp i => rfl
  | st d k => rfl

theorem obj_leave (x : Opd) (v : SV) {r : Root} (h : isSl r = false) : (leave σ x v).obj r = σ.obj r := by
  obtain ⟨h1, h2, h3⟩ := leave_out (σ := σ) x v
  cases r with
  | sl k => simp [isSl] at h
  | hp i => simp only [St.obj, h2]
  | st d k => simp only [St.obj, h1, h3]

theorem Rel.putU (hr : Rel ba σ g tmps W) {k : Nat} (hu : isOwn (getD .undef σ.env k) = false) {v : SV} (hno : owns v = false) (hv : SR ⟨g, W, tmps, σ.env⟩ (slotO k) v (tmps.getD k undef)) : Rel ba { σ with env := VM.put σ.env k v } g tmps W := by
  have hown : ∀ j, j ≠ k → isOwn (getD .undef (VM.put σ.env k v) j) = isOwn (getD .undef σ.env j) := by
    intro j hj; rw [getD_put, if_neg hj]
  refine hr.envLess _ _ fun j => ?_
  rw [getD_put]
  by_cases hj : j = k
  · subst hj
    simp only [if_true]
    exact SR.framed hu hown hv
  · rw [if_neg hj]
    exact SR.framed hu hown (hr.env j)

/-- the value that a store takes, as the operation's own for now -/
theorem stored_ok {a : Act} (hr : Rel ba σ g a.tmps W) {y : Operand} {x : Opd} (hx : opdOf y = some x) (off d : Nat) (frz : Bool) (hu : isUndef (take σ (source σ x)) = false)
    (hm : (if frz then freezeC (take σ (source σ x)).cells else (take σ (source σ x)).cells).all okMem = true) :
    ∃ g', Rel ba (leave σ (source σ x) .undef) g' a.tmps W ∧ Ext d g g' W W ∧ SRs ⟨g', W, a.tmps, (leave σ (source σ x) .undef).env⟩ resO off (if frz then freezeC (take σ (source σ x)).cells else (take σ (source σ x)).cells) (a.eval y).cells.toList ∧
      (frz = true → ∀ k, source σ x = .t k → owns (getD .undef σ.env k) = true → g' = g.freeze W k) := by
  cases frz with
  | false =>
    simp only [Bool.false_eq_true, if_false]
    obtain ⟨f, f1, f2, f3, f4⟩ := takeS_ok hr hx (partT off (take σ (source σ x)))
    exact ⟨g.name f, f3, Ext.name _ f, part_cells f4 hu, by simp⟩
  | true =>
    simp only [if_true] at hm ⊢
    obtain ⟨g1, k1, k2, k3, k4⟩ := frz_ok hr hx hu (fun v hv => by
      rcases freezeC_mem v hv with h | h
      · exact .inl h
      · rw [List.all_eq_true] at hm; exact okMem_flat (hm v h)) d (fun π => match π with | [] => none | i :: π => resO ((off + i) :: π))
    exact ⟨g1, k1, k2, SRs.shift (fun j π => by simp) k3, fun _ => k4⟩

/-- what a slot that gave its value looks at from now on -/
theorem SRs.frameRes {cx cx' : Cx} {f : Owner → Owner} (hf : ∀ π, f (.res π) = .res π) (hg : cx'.g = cx.g.name f) (hW : cx'.W = cx.W) {i : Nat} {v : List SV} {x : List Value} (hm : v.all okMem = true) (h : SRs cx resO i v x) : SRs cx' resO i v x := by
  have h1 := SRs.name (cx := cx) (cx' := ⟨cx.g.name f, cx.W, cx.tmps, cx.env⟩) (f := f) rfl rfl (fun pl x e => by rw [hdr_name]; exact e) h
  have e : (fun π => (resO π).map f) = resO := by funext π; simp [resO, hf]
  rw [e] at h1
  have hF : Fr (fun _ => True) ⟨cx.g.name f, cx.W, cx.tmps, cx.env⟩ cx' := ⟨by rw [hg]; exact ⟨fun _ _ h => h, fun _ h => h⟩, fun _ _ h => by rw [hg]; exact h, fun b _ _ => ⟨by rw [hW], by rw [hg]⟩, trivial⟩
  exact SRs.frameM hF (fun _ => trivial) hm h1

theorem scalarS_ok {cx : Cx} {o : List Nat → Option Owner} {v : SV} {x : Value} (hs : scalarS v = true) (h : SR cx o v x) : ∀ a m cap, x ≠ .slice (some a) m cap := by
  intro a m cap e
  subst e
  cases v with
  | p v => cases v <;> simp [scalarS] at hs <;> simp [SR, PR] at h
  | ptr pl => obtain ⟨a, h, _⟩ := SR_ptr h (.inr (.inl ⟨_, rfl⟩)); simp at h
  | nilp => simp [SR] at h
  | fn f c => simp [SR] at h
  | nilf => simp [SR] at h
  | _ => simp [scalarS] at hs

/-- who looked at cells that are written over -/
theorem over_ok {r : Root} {off n : Nat} {ob old : Obj} {pl : Place} {σ0 σf : St} (hr : Rel ba σ0 g tmps W) (hpl : pl = ⟨r, off, none⟩) (hs : isSl r = false) (hw : writable ba r = true) (hob : σ0.obj r = some ob) (hn0 : n ≠ 0) (hle : off + n ≤ ob.length) (hold : old = (ob.drop off).take n)
    (hf : SetAt σ0 σf r (ob.take off ++ (List.replicate n .undef ++ ob.drop (off + n)))) :
    ∃ f : Owner → Owner, (∀ π, f (.res π) = .res π) ∧ Rel ba { σf with env := overwrite σ0 pl old } (g.name f) tmps W ∧ (∀ k, standsP (outOf r off n) (getD .undef (overwrite σ0 pl old) k) = true) ∧
      ∀ k, getD .undef σ0.env k = .undef → getD .undef (overwrite σ0 pl old) k = .undef := by
  subst hpl
  have hne : ob ≠ [] := by intro e; rw [e] at hle; simp at hle; omega
  have hOb := hr.mem r ob hs hob hne
  have hrf := hr.setObj hs hf (fun _ => ObR.forget off n hle hOb)
  have hid : g.name (fun o => o) = g := by simp [Gh.name]
  obtain ⟨b, c, T, fr, h1, h2, h3, h4, h5, h6⟩ := hOb
  have hcell : ∀ o', hdr ⟨g, W, tmps, σ0.env⟩ ⟨r, o', none⟩ = c[o']? := by
    intro o'
    have : (g.blk r).bind (fun b => W.cell? ⟨b, o', none⟩) = c[o']? := by
      simp only at h1 h2
      rw [h1]; simp only [Option.bind_some]; rw [cell_of_block h2]
    cases r with
    | sl k => simp [isSl] at hs
    | hp i => exact this
    | st d i => exact this
  have killed : ∃ f : Owner → Owner, (∀ π, f (.res π) = .res π) ∧ Rel ba { σf with env := mapE (killAt r off n) σ0.env } (g.name f) tmps W ∧ (∀ k, standsP (outOf r off n) (getD .undef (mapE (killAt r off n) σ0.env) k) = true) ∧
      ∀ k, getD .undef σ0.env k = .undef → getD .undef (mapE (killAt r off n) σ0.env) k = .undef := by
    refine ⟨fun o => o, fun _ => rfl, ?_, fun k => ?_, fun k hk => ?_⟩
    · rw [hid]
      refine hrf.envLess _ _ fun k => ?_
      rw [getD_mapE _ (killAt_undef _ _ _)]
      have := hrf.env k
      rw [hf.env] at this
      refine SR.frame (K := fun _ => True) (cx := ⟨g, W, tmps, σ0.env⟩) (cx' := ⟨g, W, tmps, mapE (killAt r off n) σ0.env⟩) ⟨⟨fun _ _ h => h, fun _ h => h⟩, fun _ _ h => h, fun _ _ _ => ⟨rfl, rfl⟩, trivial⟩ ?_ (fun _ => trivial) (killAt_less _ _ _ this)
      intro pl x h
      cases hroot : pl.root with
      | sl j => simp only [hdr, hroot] at h ⊢; rw [getD_mapE _ (killAt_undef _ _ _), isOwn_killAt]; exact h
      | hp _ | st _ _ => simp only [hdr, hroot] at h ⊢; exact h
    · rw [getD_mapE _ (killAt_undef _ _ _)]; exact killAt_standsP _ _ _ _
    · rw [getD_mapE _ (killAt_undef _ _ _), hk]; exact killAt_undef _ _ _
  have hlold : old.length = n := by rw [hold, List.length_take, List.length_drop]; omega
  unfold overwrite
  simp only [Option.isSome_none, Bool.false_eq_true, if_false]
  split
  · rename_i hsc
    refine ⟨fun o => o, fun _ => rfl, ?_, fun k => ?_, fun k hk => hk⟩
    · rw [hid]
      have : ({ σf with env := σ0.env } : St) = σf := by rw [← hf.env]
      rw [this]; exact hrf
    · refine scalar_standsP (cx := ⟨g, W, tmps, σ0.env⟩) ?_ (hr.env k)
      intro pl hp h1 h2 a m cap hh
      have e : hdr ⟨g, W, tmps, σ0.env⟩ pl = hdr ⟨g, W, tmps, σ0.env⟩ ⟨r, pl.off, none⟩ := by
        unfold hdr; rw [hp]
      rw [e, hcell] at hh
      have hlt : pl.off < ob.length := by omega
      have hg : ob[pl.off]? = some ob[pl.off] := List.getElem?_eq_getElem hlt
      obtain ⟨y, hy1, hy2⟩ := SRs.get pl.off h5 hg
      simp only [Array.getElem?_toList] at hy1
      rw [hh] at hy1
      simp only [Option.some.injEq] at hy1
      have hin : ob[pl.off] ∈ old := by
        rw [hold]
        refine List.mem_iff_getElem?.2 ⟨pl.off - off, ?_⟩
        rw [List.getElem?_take, if_pos (by omega), List.getElem?_drop]
        rw [show off + (pl.off - off) = pl.off by omega]; exact hg
      rw [List.all_eq_true] at hsc
      exact scalarS_ok (hsc _ hin) hy2 a m cap hy1.symm
  · split
    · rename_i s es _
      have hn1 : n = 1 := by simpa using hlold.symm
      subst hn1
      split
      case h_2 => exact killed
      rename_i k _
      split
      case h_2 => exact killed
      rename_i q t lo m hk
      split
      case isFalse => exact killed
      rename_i hc
      obtain ⟨rfl, rfl, hlo⟩ := hc
      have hget : ob[off]? = some (.own t es) := by
        have : ((ob.drop off).take 1)[0]? = some (SV.own t es) := by rw [← hold]; rfl
        simpa [List.getElem?_take, List.getElem?_drop] using this
      have hobf : σf.obj r = some (ob.take off ++ (List.replicate 1 SV.undef ++ ob.drop (off + 1))) := hf.here
      have ht : (ob.take off).length = off := by rw [List.length_take]; omega
      have hn := hrf.rescueCell (off := off) (t := fun π => .cell (.sl k) π) hs hw hobf (by rw [List.getElem?_append_right (by omega), ht]; simp)
      refine ⟨fResc r off (fun π => .cell (.sl k) π), fun _ => rfl, ?_, fun j => ?_, fun j hj => ?_⟩
      · obtain ⟨y, hy1, hy2⟩ := SRs.get off h5 hget
        simp only [Array.getElem?_toList] at hy1
        simp only [SR, Nat.zero_add] at hy2
        have ho : ownerOf ba r (.cell r [off]) = some (.cell r [off]) := by simp [ownerOf, hw]
        rw [ho] at hy2
        have hy3 : OwnR ⟨g.name (fResc r off (fun π => .cell (.sl k) π)), W, tmps, VM.put (mapE (killAt r off 1) σ0.env) k (.own t ((es.drop lo).take m))⟩ (some (.cell (.sl k) [])) t es y := by
          obtain ⟨a, n', cap, e1, e2, e3, e4, e5, e6⟩ := hy2
          refine ⟨a, n', cap, e1, e2, e3, e4, e5, ?_⟩
          rcases e6 with e6 | ⟨c1, T1, fr1, f1, f2, f3, f4, f5⟩
          · exact .inl e6
          · exact .inr ⟨c1, T1, fr1, f1, f2, by simp only at f3; simp [Gh.name, f3, fResc], f4, PRss.mono (gle_name g _) _ _ f5⟩
        have hkR := hr.env k
        rw [hk] at hkR
        simp only [SR, AlR] at hkR
        obtain ⟨_, ad, m', cap, b', cap', hh, ha, q3, q4, hX, q5, q6, q7⟩ := hkR
        rw [hcell, hy1] at hh
        simp only [Option.some.injEq] at hh
        subst hh
        have hkno : isOwn (getD .undef σ0.env k) = false := by rw [hk]; rfl
        refine hn.envLess _ _ fun j => ?_
        rw [getD_put]
        by_cases hj : j = k
        · subst hj
          simp only [if_true]
          rw [hX]
          simp only [SR, slotO]
          exact al_own hy3 q3 q5 q6 q7
        · rw [if_neg hj, getD_mapE _ (killAt_undef _ _ _)]
          have := hn.env j
          rw [hf.env] at this
          refine SR.frame (K := fun _ => True) (cx := ⟨g.name (fResc r off (fun π => .cell (.sl k) π)), W, tmps, σ0.env⟩) (cx' := ⟨g.name (fResc r off (fun π => .cell (.sl k) π)), W, tmps, VM.put (mapE (killAt r off 1) σ0.env) k (.own t ((es.drop lo).take m))⟩) ⟨⟨fun _ _ h => h, fun _ h => h⟩, fun _ _ h => h, fun _ _ _ => ⟨rfl, rfl⟩, trivial⟩ ?_ (fun _ => trivial) (killAt_less _ _ _ this)
          intro pl x h
          cases hroot : pl.root with
          | sl i =>
            simp only [hdr, hroot] at h ⊢
            rw [getD_put]
            by_cases hi : i = k
            · subst hi; rw [hkno] at h; simp at h
            · rw [if_neg hi, getD_mapE _ (killAt_undef _ _ _), isOwn_killAt]; exact h
          | hp _ | st _ _ => simp only [hdr, hroot] at h ⊢; exact h
      · rw [getD_put]
        split
        · rfl
        · rw [getD_mapE _ (killAt_undef _ _ _)]; exact killAt_standsP _ _ _ _
      · rw [getD_put, if_neg, getD_mapE _ (killAt_undef _ _ _), hj]
        · exact killAt_undef _ _ _
        · intro e; subst e; rw [hk] at hj; simp at hj
    · rw [hlold]; exact killed
end
end Go.VM

/-
V: stores into objects, whole.
-/
namespace Go.VM
open Go
set_option linter.unusedVariables false
set_option linter.unusedSimpArgs false

/-- the operation's own becomes an object's -/
def fRes (r : Root) : Owner → Owner
  | .res π => .cell r π
  | o => o

section
variable {P : Program} {ba : Ba} {σ : St} {g : Gh} {tmps : Array Value} {W : World}

theorem Ext.anti {d d' : Nat} {g g' : Gh} {W W' : World} (hd : d ≤ d') (h : Ext d' g g' W W') : Ext d g g' W W' :=
  ⟨h.size, h.keep, h.stab, h.perm, h.fresh, fun r b hr e => h.blk r b (by cases r with | hp i => trivial | st e j => exact Nat.lt_of_lt_of_le hr hd | sl k => exact hr) e, h.newBlk, h.os, h.tape, h.output⟩

theorem PtrR.plain {cx : Cx} {pl : Place} {X : Value} (h : PtrR cx pl X) (hrow : pl.row = none) : isSl pl.root = false ∧ ∃ b, cx.g.blk pl.root = some b ∧ X = .pointer (some ⟨b, pl.off, none⟩) := by
  unfold PtrR at h
  rw [hrow] at h
  exact h

theorem place_eta {pl : Place} (h : pl.row = none) : pl = ⟨pl.root, pl.off, none⟩ := by cases pl; simp_all

theorem moved_owns (pl : Place) (v : SV) : owns (moved pl v) = false ∧ isOwn (moved pl v) = false := by
  unfold moved; split
  · split <;> exact ⟨rfl, rfl⟩
  · exact ⟨rfl, rfl⟩
theorem thawed_owns (v : SV) : owns (thawed v) = false := by
  unfold thawed; split
  · exact freezeV_owns (by assumption)
  · rfl

theorem storeObj_ok {a : Act} (hr : Rel ba σ g a.tmps W) {ya y : Operand} {xa x0 : Opd} {pl : Place} (hxa : opdOf ya = some xa) (hpa : rd σ xa = .ptr pl) (hrow : pl.row = none) (hx : opdOf y = some x0) {t : TypeId} {n : Nat} (hn : szOf P t = some n) {σ' : St} (h : storev ba σ n pl x0 = some σ') :
    ∃ g' W', (Instr.storeAt t (a.eval ya) (a.eval y)).run P W = .ok () W' ∧ Rel ba σ' g' a.tmps W' ∧ Ext σ.out.length g g' W W' ∧ σ'.out.length = σ.out.length := by
  obtain ⟨oA, hA⟩ := rd_ok hr hxa
  rw [hpa] at hA
  simp only [SR] at hA
  obtain ⟨hs, b, hb, hX⟩ := hA.plain hrow
  simp only at hb
  unfold storev at h
  simp only [hrow, Option.isSome_none, Bool.false_or] at h
  split at h
  case isTrue => simp at h
  rename_i hsz
  have hsz1 : (take σ (source σ x0)).cells.length = n := by
    rcases Nat.decEq (take σ (source σ x0)).cells.length n with h | h
    · exact absurd (Or.inl h) hsz
    · exact h
  have hn0 : n ≠ 0 := fun e => hsz (Or.inr e)
  simp only [Option.bind_eq_some_iff] at h
  obtain ⟨ob, hob, old, hold, h⟩ := h
  obtain ⟨⟨hu, hok⟩, h⟩ := ite_some h
  simp only [Option.map_eq_some_iff] at h
  obtain ⟨σ2, hwr, hfin⟩ := h
  generalize hfrz : (!isHeap pl.root && decide (ob.length ≠ 1)) = frz at hok hwr hfin
  have hpl := place_eta hrow
  -- what is written
  have hok1 : (if frz = true then freezeC (take σ (source σ x0)).cells else (take σ (source σ x0)).cells).all (okAt pl.root) = true := by
    rw [List.all_eq_true] at hok ⊢
    intro v hv
    have := hok v hv
    simp only [Bool.and_eq_true] at this
    exact this.1
  have hok2 : ∀ u ∈ (if frz = true then freezeC (take σ (source σ x0)).cells else (take σ (source σ x0)).cells), okMem u = true ∧ isUndef u = false := by
    rw [List.all_eq_true] at hok
    intro v hv
    have := hok v hv
    simp only [Bool.and_eq_true, Bool.not_eq_true'] at this
    exact ⟨okAt_mem this.1, this.2⟩
  obtain ⟨g1, r1, e1, s1, f1⟩ := stored_ok hr hx pl.off (σ.out.length + 1) frz hu (okAt_all hok1)
  obtain ⟨lo1, lo2, lo3⟩ := leave_out (σ := σ) (source σ x0) .undef
  generalize hcs : (if frz = true then freezeC (take σ (source σ x0)).cells else (take σ (source σ x0)).cells) = cs at hok1 hok2 s1 hwr hok
  have hcsl : cs.length = n := by
    have l1 := SRs.length s1
    have l2 : (freezeC (take σ (source σ x0)).cells).length = (take σ (source σ x0)).cells.length := by
      generalize (take σ (source σ x0)).cells = l
      induction l with
      | nil => rfl
      | cons c r ih => cases c <;> simp [freezeC, ih]
    rw [← hcs]; split
    · rw [l2, hsz1]
    · exact hsz1
  -- the cells that were there
  have hob1 : (leave σ (source σ x0) .undef).obj pl.root = some ob := by rw [obj_leave _ _ hs]; exact hob
  have hold' : pl.off + n ≤ ob.length ∧ old = (ob.drop pl.off).take n := by
    unfold rdCells at hold
    rw [hob] at hold
    simp only [Option.bind_some, hrow, hs, Bool.false_eq_true, if_false] at hold
    exact sub_some hold
  obtain ⟨hle, hold1⟩ := hold'
  have hne : ob ≠ [] := by intro e; rw [e] at hle; simp at hle; omega
  obtain ⟨b0, c, T, fr, h1, h2, h3, h4, h5, h6⟩ := r1.mem pl.root ob hs hob1 hne
  simp only at h1 h2 h4
  have hbb : g1.blk pl.root = some b := by
    refine e1.blk _ _ ?_ hb
    cases hroot : pl.root with
    | sl k => rw [hroot] at hs; simp [isSl] at hs
    | hp i => trivial
    | st d i => rw [hroot] at hb; exact Nat.lt_succ_of_le (hr.stIn _ _ _ hb)
  rw [hbb] at h1; simp only [Option.some.injEq] at h1; subst h1
  have hlc := SRs.length h5
  simp only [Array.length_toList] at hlc
  -- the write
  unfold wrCells at hwr
  obtain ⟨hw, hwr⟩ := ite_some hwr
  simp only [Option.bind_eq_some_iff, hrow] at hwr
  obtain ⟨ob2, hob2, ob3, hsp, hset⟩ := hwr
  rw [obj_env hs, hob1] at hob2
  simp only [Option.some.injEq] at hob2; subst hob2
  obtain ⟨_, rfl⟩ := splice_some hsp
  rw [hcsl] at hset
  obtain ⟨σf, hσf⟩ := setObj_some (σ := leave σ (source σ x0) .undef) hs hob1 (ob.take pl.off ++ (List.replicate n .undef ++ ob.drop (pl.off + n)))
  have hSf := setObj_ok hs hob1 hσf
  obtain ⟨f, k1, k2, k3, k4⟩ := over_ok r1 hpl hs hw hob1 hn0 hle hold1 hSf
  have s2 := SRs.frameRes (cx := ⟨g1, W, a.tmps, (leave σ (source σ x0) .undef).env⟩) (cx' := ⟨g1.name f, W, a.tmps, overwrite (leave σ (source σ x0) .undef) pl old⟩) k1 rfl rfl (okAt_all hok1) s1
  have k5 := k2.name (fRes pl.root) (fun _ _ => .inl rfl) (fun r _ => ⟨rfl, fun _ => rfl⟩)
  have s3 := SRs.name (cx := ⟨g1.name f, W, a.tmps, overwrite (leave σ (source σ x0) .undef) pl old⟩) (cx' := ⟨(g1.name f).name (fRes pl.root), W, a.tmps, overwrite (leave σ (source σ x0) .undef) pl old⟩) (f := fRes pl.root) rfl rfl (fun pl x e => by rw [hdr_name]; exact e) s2
  have hsl := SRs.length s1
  obtain ⟨W', c', w1, w2, w3⟩ := run_storeAt (P := P) (X := a.eval y) hn (by rw [← Array.length_toList]; omega) h2 h3 (by rw [hlc]; exact hle) (SRs.oneCells hok2 s1)
  have hS2 : SetAt { σf with env := overwrite (leave σ (source σ x0) .undef) pl old } σ2 pl.root (ob.take pl.off ++ (cs ++ ob.drop (pl.off + n))) := by
    have hS := setObj_ok hs (by rw [obj_env hs]; exact hob1) hset
    refine ⟨hS.env, by rw [hS.hp]; exact hSf.hp.symm, by rw [hS.out]; exact hSf.out.symm, hS.here, fun r' hs' hr' => ?_⟩
    rw [hS.away r' hs' hr', obj_env hs']
    exact ((hSf.away r' hs' hr').symm.trans (obj_env (σ := σf) (e := overwrite (leave σ (source σ x0) .undef) pl old) hs').symm)
  have hobf : ({ σf with env := overwrite (leave σ (source σ x0) .undef) pl old } : St).obj pl.root = some (ob.take pl.off ++ (List.replicate n .undef ++ ob.drop (pl.off + n))) := by rw [obj_env hs]; exact hSf.here
  have htl : (ob.take pl.off).length = pl.off := by rw [List.length_take]; omega
  have htk : (ob.take pl.off ++ (List.replicate n SV.undef ++ ob.drop (pl.off + n))).take pl.off = ob.take pl.off := by rw [List.take_left' htl]
  have hdr1 : (ob.take pl.off ++ (List.replicate n SV.undef ++ ob.drop (pl.off + n))).drop (pl.off + n) = ob.drop (pl.off + n) := by
    rw [← List.drop_drop, List.drop_left' htl, List.drop_left' (by simp)]
  obtain ⟨k6, k7⟩ := Rel.writeObj k5 hs hw hobf hn0 (by simp; omega) hbb h2 w3 w2 hcsl k3 s3 hok1 (by rw [htk, hdr1]; exact hS2)
  have eAll : Ext σ.out.length g ((g1.name f).name (fRes pl.root)) W W' := (Ext.anti (Nat.le_succ _) e1).trans ((Ext.name _ f).trans ((Ext.name _ (fRes pl.root)).trans (k7 _)))
  have hout2 : σ2.out.length = σ.out.length := by rw [hS2.out]; show σf.out.length = _; rw [hSf.out, lo1]
  refine ⟨(g1.name f).name (fRes pl.root), W', by rw [hX]; exact w1, ?_⟩
  cases hsrc : source σ x0 with
  | c w =>
    rw [hsrc] at hfin
    simp only at hfin
    subst hfin
    exact ⟨k6, eAll, hout2⟩
  | t k =>
    rw [hsrc] at hfin
    simp only at hfin
    by_cases ho : owns (take σ (.t k)) = true
    case neg => rw [if_neg ho] at hfin; subst hfin; exact ⟨k6, eAll, hout2⟩
    rw [if_pos ho] at hfin
    subst hfin
    have hku : getD .undef σ2.env k = .undef := by
      rw [hS2.env]
      refine k4 k ?_
      rw [hsrc, leave_owns ho, getD_clear, if_pos rfl]
    refine ⟨Rel.putU k6 (by rw [hku]; rfl) ?_ ?_, eAll, hout2⟩
    · split
      · exact thawed_owns _
      · exact (moved_owns _ _).1
    · split
      · rename_i hf
        unfold thawed
        split
        · rename_i c1 hc1
          have hg1 := f1 hf k hsrc ho
          refine plain_mono (cx := ⟨g.freeze W k, W, a.tmps, (VM.clear σ k).env⟩) (o := slotO k) hc1 ?_ (frzV_ok hr ho hc1 (hr.taken k ho) _)
          rw [← hg1]
          exact (((Ext.name (W := W) 0 f).trans ((Ext.name _ (fRes pl.root)).trans (k7 _))).gle)
        · simp [SR]
      · rename_i hf
        have hk := hr.env k
        simp only [take] at ho hsrc ⊢
        cases hv : getD .undef σ.env k with
        | own s es =>
          rw [hv] at hk
          simp only [SR, OwnR] at hk
          obtain ⟨ad, m, cap, q1, q2, q3, q4, q5, q6⟩ := hk
          simp only [moved]
          split
          · rename_i hemp
            have : es = [] := by simpa using hemp
            subst this
            simp only [SR, PR]
            exact ⟨ad, m, cap, q1, q2, q3, fun _ => q4, .inl (by simpa using q2.symm)⟩
          · rename_i hemp
            have hne' : es ≠ [] := by simpa using hemp
            have heq := source_eq hr hx hsrc hv hne'
            simp only [SR, AlR]
            refine ⟨hrow, ad, m, cap, ad, cap, ?_, q4, by omega, q3, by rw [q1, q2], by omega, q4, .inr ⟨rfl, by omega, by omega⟩⟩
            have hcell : W'.cell? ⟨b, pl.off, none⟩ = some (.slice (some ad) m cap) := by
              rw [cell_of_block w3.here]
              have : c'.toList[pl.off]? = some (.slice (some ad) m cap) := by
                rw [w2, List.getElem?_append_right (by rw [List.length_take, Array.length_toList]; omega), heq, q1]
                have hz : pl.off - (c.toList.take pl.off).length = 0 := by rw [List.length_take, Array.length_toList]; omega
                rw [hz]
                simp [Value.cells]
              simpa using this
            have hb2 : ((g1.name f).name (fRes pl.root)).blk pl.root = some b := hbb
            have : ((((g1.name f).name (fRes pl.root)).blk pl.root).bind fun b => W'.cell? ⟨b, pl.off, none⟩) = some (.slice (some ad) m cap) := by
              rw [hb2]; exact hcell
            cases hroot : pl.root with
            | sl k => rw [hroot] at hs; simp [isSl] at hs
            | hp i => simp only [hdr, hroot] at this ⊢; exact this
            | st d i => simp only [hdr, hroot] at this ⊢; exact this
        | _ => simp only [moved]; simp [SR]
end
end Go.VM

/-
V: stores into elements of own slices.
-/
namespace Go.VM
open Go
set_option linter.unusedVariables false
set_option linter.unusedSimpArgs false

theorem flatten_splice {s : Nat} : ∀ {es : List (List PV)} {i o : Nat} {e ps : List PV}, lensAre s es → es[i]? = some e → o + ps.length ≤ s →
    (es.set i (e.take o ++ (ps ++ e.drop (o + ps.length)))).flatten = es.flatten.take (i * s + o) ++ (ps ++ es.flatten.drop (i * s + o + ps.length))
  | [], i, o, e, ps, _, h, _ => by simp at h
  | f :: r, 0, o, e, ps, hl, h, hle => by
    simp only [List.getElem?_cons_zero, Option.some.injEq] at h; subst h
    simp only [lensAre, lenL_eq] at hl
    simp only [List.set_cons_zero, List.flatten_cons, Nat.zero_mul, Nat.zero_add]
    rw [List.take_append_of_le_length (by omega), List.drop_append_of_le_length (by omega)]
    simp
  | f :: r, i + 1, o, e, ps, hl, h, hle => by
    simp only [lensAre, lenL_eq] at hl
    have ih := flatten_splice (i := i) (o := o) hl.2 (by simpa using h) hle
    have e1 : (i + 1) * s + o = f.length + (i * s + o) := by rw [Nat.succ_mul, hl.1]; omega
    simp only [List.set_cons_succ, List.flatten_cons]
    rw [ih, e1, Nat.add_assoc f.length, List.take_append, List.take_of_length_le (show f.length ≤ f.length + (i * s + o) by omega)]
    rw [show f.length + (i * s + o) - f.length = i * s + o by omega, List.drop_append, List.drop_of_length_le (show f.length ≤ f.length + (i * s + o + ps.length) by omega)]
    simp

theorem rows_set {g : Gh} {s i o : Nat} {es : List (List PV)} {e ps : List PV} {L xs : List Value} (hl : lensAre s es) (h : PRss g es L) (he : es[i]? = some e) (hle : o + ps.length ≤ s) (hs : s ≠ 0) (hx : PRs g ps xs) :
    PRss g (es.set i (e.take o ++ (ps ++ e.drop (o + ps.length)))) (L.take (i * s + o) ++ (xs ++ L.drop (i * s + o + ps.length))) ∧ lensAre s (es.set i (e.take o ++ (ps ++ e.drop (o + ps.length)))) := by
  have hes : e.length = s := (PRss.get i hl h he).2
  have hl' : lensAre s (es.set i (e.take o ++ (ps ++ e.drop (o + ps.length)))) := lensAre_set hl (by simp; omega)
  refine ⟨?_, hl'⟩
  have hxs := PRs.length hx
  have hi : i < es.length := (List.getElem?_eq_some_iff.1 he).1
  have hlen : es.length * s ≤ L.length := by rcases PRss.length hl h with h | h; exact h; exact absurd h hs
  have hin : i * s + o + ps.length ≤ es.length * s := by
    have := Nat.mul_le_mul_right s (Nat.succ_le_of_lt hi)
    rw [Nat.succ_mul] at this; omega
  have hF := flat_PRss hl (l := L.take (es.length * s)) (by rw [List.length_take]; omega) (PRss.upTo hl (by simp [List.take_take]) h)
  have hM : PRs g (es.set i (e.take o ++ (ps ++ e.drop (o + ps.length)))).flatten ((L.take (es.length * s)).take (i * s + o) ++ (xs ++ (L.take (es.length * s)).drop (i * s + o + ps.length))) := by
    rw [flatten_splice hl he hle]
    exact PRs.append (PRs.take _ hF) (PRs.append hx (PRs.drop _ hF))
  refine PRss.upTo hl' ?_ (PRss_flat hl' hM)
  rw [List.length_set]
  have k1 : (L.take (es.length * s)).take (i * s + o) = L.take (i * s + o) := by rw [List.take_take, Nat.min_eq_left (by omega)]
  rw [k1, List.take_append, List.take_append, List.take_append, List.take_append]
  have hlt : (L.take (i * s + o)).length = i * s + o := by rw [List.length_take]; omega
  rw [hlt, hxs]
  congr 2
  rw [List.drop_take, List.take_take]
  congr 1
  omega

section
variable {P : Program} {ba : Ba} {σ : St} {g : Gh} {tmps : Array Value} {W : World}

/-- an own slice, one of whose elements is written over -/
theorem OwnR.write {env env' : List (Nat × SV)} {ow : Option Owner} {s n cap i o : Nat} {es : List (List PV)} {ad : Addr} {e ps : List PV} {xs : List Value} (h : OwnR ⟨g, W, tmps, env⟩ ow s es (.slice (some ad) n cap)) (he : es[i]? = some e)
    (hle : o + ps.length ≤ e.length) (h0 : ps.length ≠ 0) (hx : PRs g ps xs) :
    ∃ c T fr, W.heap[ad.block]? = some (.cells c T fr) ∧ Unfr fr c.size ∧ g.own ad.block = ow ∧ ad.off + i * s + o + ps.length ≤ c.size ∧ ∀ W' c', c'.toList = c.toList.take (ad.off + i * s + o) ++ (xs ++ c.toList.drop (ad.off + i * s + o + ps.length)) → Wrote W W' ad.block c' T fr →
      OwnR ⟨g, W', tmps, env'⟩ ow s (es.set i (e.take o ++ (ps ++ e.drop (o + ps.length)))) (.slice (some ad) n cap) := by
  obtain ⟨a', n', cp, hX, e1, e2, e3, e4, e5⟩ := h
  simp only [Value.slice.injEq, Option.some.injEq] at hX
  obtain ⟨rfl, rfl, rfl⟩ := hX
  have hi : i < es.length := (List.getElem?_eq_some_iff.1 he).1
  rcases e5 with e5 | ⟨c, T, fr, f1, f2, f3, f4, f5⟩
  · omega
  simp only at f1 f3 f5
  have hes : e.length = s := (PRss.get i e4 f5 he).2
  have hs0 : s ≠ 0 := by omega
  have hin : i * s + o + ps.length ≤ n * s := by
    have := Nat.mul_le_mul_right s (Nat.succ_le_of_lt hi)
    rw [Nat.succ_mul, e1] at this; omega
  have hcap : n * s ≤ cap * s := Nat.mul_le_mul_right s e2
  refine ⟨c, T, fr, f1, f2, f3, by omega, ?_⟩
  intro W' c' hc' hW
  obtain ⟨r1, r2⟩ := rows_set (o := o) e4 f5 he (by omega) hs0 hx
  have hxs := PRs.length hx
  have hsz : c'.size = c.size := by
    have := congrArg List.length hc'
    simp only [Array.length_toList, List.length_append, List.length_take, List.length_drop] at this
    omega
  refine ⟨ad, n, cap, rfl, by simpa using e1, e2, e3, r2, .inr ⟨c', T, fr, hW.here, by rw [hsz]; exact f2, f3, by rw [hsz]; exact f4, ?_⟩⟩
  have : c'.toList.drop ad.off = (c.toList.drop ad.off).take (i * s + o) ++ (xs ++ (c.toList.drop ad.off).drop (i * s + o + ps.length)) := by
    rw [hc', List.drop_append_of_le_length (by rw [List.length_take, Array.length_toList]; omega), List.drop_take, List.drop_drop, show ad.off + i * s + o - ad.off = i * s + o by omega, show ad.off + (i * s + o + ps.length) = ad.off + i * s + o + ps.length by omega]
  rw [this]
  exact r1

theorem frW {K : Option Owner → Prop} {env env' : List (Nat × SV)} {tmps' : Array Value} {W' : World} {B : Nat} {C : Array Value} {T : TypeId} {fr : Nat × Nat} (hW : Wrote W W' B C T fr) (hK : ¬ K (g.own B)) (hn : K none) : Fr K ⟨g, W, tmps, env⟩ ⟨g, W', tmps', env'⟩ :=
  ⟨⟨fun _ _ h => h, fun _ h => h⟩, fun _ _ h => h, fun b' _ hk => ⟨hW.away b' (fun e => hK (by rw [← e]; exact hk)), rfl⟩, hn⟩

/-- headers, when an element's block is written -/
theorem hdrW (hr : Rel ba σ g tmps W) {W' : World} {B : Nat} {C : Array Value} {T : TypeId} {fr : Nat × Nat} {ow : Owner} (hW : Wrote W W' B C T fr) (hB : g.own B = some ow) (hno : ∀ r, ow ≠ .obj r) {env' : List (Nat × SV)} (ho : ∀ j, isOwn (getD .undef σ.env j) = true → isOwn (getD .undef env' j) = true) :
    ∀ pl x, hdr ⟨g, W, tmps, σ.env⟩ pl = some x → hdr ⟨g, W', tmps, env'⟩ pl = some x := by
  intro pl x h
  cases hroot : pl.root with
  | sl k =>
    simp only [hdr, hroot] at h ⊢
    split at h
    · rename_i hc; rw [if_pos ⟨hc.1, ho k hc.2⟩]; exact h
    · simp at h
  | hp i | st d i =>
    all_goals
      simp only [hdr, hroot, Option.bind_eq_some_iff] at h ⊢
      obtain ⟨b', e1, e2⟩ := h
      refine ⟨b', e1, ?_⟩
      have hne : b' ≠ B := by
        intro e
        rcases hr.kind _ _ (by rfl) e1 with h | h
        · rw [e, hB] at h; simp at h
        · rw [e, hB] at h; simp only [Option.some.injEq] at h; exact hno _ h
      simp only [World.cell?] at e2 ⊢
      rw [hW.away b' hne]
      exact e2

theorem Rel.writeRow {σ2 : St} {B : Nat} {r : Root} {off i o s : Nat} {es : List (List PV)} {ob : Obj} {e ps : List PV} {ad : Addr} {n cap : Nat} (hr : Rel ba σ g tmps W) (hw : writable ba r = true)
    (hob : σ.obj r = some ob) (hcell : ob[off]? = some (.own s es)) (hh : hdr ⟨g, W, tmps, σ.env⟩ ⟨r, off, none⟩ = some (.slice (some ad) n cap)) (he : es[i]? = some e) (hle : o + ps.length ≤ e.length) (h0 : ps.length ≠ 0) {xs : List Value} (hx : PRs g ps xs) (hBe : B = ad.block)
    (hset : σ.setObj r (ob.set off (.own s (es.set i (e.take o ++ (ps ++ e.drop (o + ps.length)))))) = some σ2) :
    ∃ c T fr, W.heap[B]? = some (.cells c T fr) ∧ Unfr fr c.size ∧ ad.off + i * s + o + ps.length ≤ c.size ∧ ∀ W' c', c'.toList = c.toList.take (ad.off + i * s + o) ++ (xs ++ c.toList.drop (ad.off + i * s + o + ps.length)) → Wrote W W' B c' T fr →
      Rel ba σ2 g tmps W' ∧ (∀ d, Ext d g g W W') ∧ σ2.out.length = σ.out.length ∧ ∀ k, owns (getD .undef σ.env k) = false → getD .undef σ2.env k = getD .undef σ.env k := by
  subst hBe
  have stabs : ∀ {W' : World} {c' : Array Value} {T : TypeId} {fr : Nat × Nat} {ow : Owner}, g.own ad.block = some ow → Wrote W W' ad.block c' T fr → (∀ b c, g.Ψ b = some c → g.own b = none ∧ cellsAt W' b = some c) ∧ (∀ b, W'.heap.size ≤ b → g.own b = none ∧ g.Ψ b = none) ∧ (∀ r b, g.blk r = some b → b < W'.heap.size) ∧ ∀ d, Ext d g g W W' := by
    intro W' c' T fr ow hown hW
    refine ⟨fun b c h => ?_, fun b h => hr.alive b (by rw [← hW.size]; exact h), fun r b h => by rw [hW.size]; exact hr.lt r b h, fun d => ⟨by rw [hW.size]; exact Nat.le_refl _, fun b' _ h => ⟨h, hW.away b' (fun e => by rw [e, hown] at h; simp at h)⟩, fun _ _ h => h, fun _ h => h, fun _ h => .inl h, fun _ _ _ h => h, fun _ _ h => .inl h, hW.os, hW.tape, hW.output⟩⟩
    obtain ⟨k1, k2⟩ := hr.stab b c h
    exact ⟨k1, by rw [cellsAt_of_heap (hW.away b (fun e => by rw [e, hown] at k1; simp at k1))]; exact k2⟩
  by_cases hs : isSl r = true
  · cases r with
    | hp _ | st _ _ => simp [isSl] at hs
    | sl k =>
      simp only [hdr] at hh
      split at hh
      case isFalse => simp at hh
      rename_i hc
      obtain ⟨hoff, hown⟩ := hc
      subst hoff
      have hk := hr.env k
      have hv : getD .undef σ.env k = .own s es := by
        simp only [St.obj, Option.some.injEq] at hob
        cases hv : getD .undef σ.env k <;> rw [hv] at hown hob <;> simp [isOwn] at hown
        subst hob
        simpa using hcell
      have hobe : ob = [.own s es] := by simp only [St.obj, hv, Option.some.injEq] at hob; exact hob.symm
      rw [hv, Array.getD_eq_getD_getElem?, hh] at hk
      simp only [SR, Option.getD_some] at hk
      subst hobe
      simp only [List.set_cons_zero, St.setObj, Option.some.injEq] at hset
      subst hset
      obtain ⟨c, T, fr, c1, c2, c3, c4, c5⟩ := hk.write (env' := VM.put σ.env k (.own s (es.set i (e.take o ++ (ps ++ e.drop (o + ps.length)))))) he hle h0 hx
      refine ⟨c, T, fr, c1, c2, c4, fun W' c' hc' hW => ?_⟩
      have c3' : g.own ad.block = some (.cell (.sl k) []) := c3
      obtain ⟨t1, t2, t3, t4⟩ := stabs c3' hW
      have hF : Fr (fun ow => ow ≠ some (.cell (.sl k) [])) ⟨g, W, tmps, σ.env⟩ ⟨g, W', tmps, VM.put σ.env k (.own s (es.set i (e.take o ++ (ps ++ e.drop (o + ps.length)))))⟩ := frW hW (by rw [c3']; simp) (by simp)
      have hd := hdrW hr hW c3' (by simp) (env' := VM.put σ.env k (.own s (es.set i (e.take o ++ (ps ++ e.drop (o + ps.length)))))) (fun j hj => by
        rw [getD_put]
        split
        · rfl
        · exact hj)
      refine ⟨⟨fun j => ?_, fun r' ob' hs' ho hne => ?_, t1, t2, hr.perm, hr.base, hr.hpIn, hr.stIn, t3, hr.inj, hr.kind⟩, t4, rfl, fun j hj => ?_⟩
      · rw [getD_put]
        by_cases hj : j = k
        · subst hj
          simp only [if_true, SR]
          rw [Array.getD_eq_getD_getElem?, hh]
          exact c5 W' c' hc' hW
        · rw [if_neg hj]
          exact SR.frame hF hd (fun π => by simp [slotO, hj]) (hr.env j)
      · rw [obj_env hs'] at ho
        refine ObR.frame hF (fun π => ?_) (by simp) (hr.mem r' ob' hs' ho hne)
        intro e; simp only [Option.some.injEq, Owner.cell.injEq] at e; rw [e.1] at hs'; simp [isSl] at hs'
      · rw [getD_put]
        split
        · rename_i e; rw [e, hv] at hj; simp [owns] at hj
        · rfl
  · have hs' : isSl r = false := by simpa using hs
    have hne : ob ≠ [] := by intro e; rw [e] at hcell; simp at hcell
    obtain ⟨b, cO, TO, frO, h1, h2, h3, h4, h5, h6⟩ := hr.mem r ob hs' hob hne
    have hoff : off < ob.length := (List.getElem?_eq_some_iff.1 hcell).1
    obtain ⟨y, hy1, hy2⟩ := SRs.get off h5 hcell
    simp only [Array.getElem?_toList, Nat.zero_add] at hy1 hy2
    have hoc : (fun π => ownerOf ba r (.cell r π)) = fun π => some (.cell r π) := by funext π; simp [ownerOf, hw]
    have hy : y = .slice (some ad) n cap := by
      have : (g.blk r).bind (fun b => W.cell? ⟨b, off, none⟩) = some (.slice (some ad) n cap) := by
        cases r with
        | sl k => simp [isSl] at hs'
        | hp i => exact hh
        | st d i => exact hh
      simp only at h1 h2
      rw [h1] at this
      simp only [Option.bind_some] at this
      rw [cell_of_block h2, hy1] at this
      simpa using this
    subst hy
    simp only [SR, ownerOf, hw, if_true] at hy2
    have hS := setObj_ok hs' hob hset
    obtain ⟨c, T, fr, c1, c2, c3, c4, c5⟩ := hy2.write (env' := σ.env) he hle h0 hx
    refine ⟨c, T, fr, c1, c2, c4, fun W' c' hc' hW => ?_⟩
    have c3' : g.own ad.block = some (.cell r [off]) := c3
    obtain ⟨t1, t2, t3, t4⟩ := stabs c3' hW
    have hF : Fr (fun ow => ow ≠ some (.cell r [off])) ⟨g, W, tmps, σ.env⟩ ⟨g, W', tmps, σ.env⟩ := frW hW (by rw [c3']; simp) (by simp)
    have hd := hdrW hr hW c3' (by simp) (env' := σ.env) (fun j hj => hj)
    refine ⟨⟨fun j => ?_, fun r' ob' hs2 ho hne' => ?_, t1, t2, hr.perm, by rw [hS.hp, hS.out]; exact hr.base, by rw [hS.hp]; exact hr.hpIn, by rw [hS.out]; exact hr.stIn, t3, hr.inj, hr.kind⟩, t4, hS.out, fun j hj => by rw [hS.env]⟩
    · rw [hS.env]
      refine SR.frame hF hd (fun π => ?_) (hr.env j)
      intro e; simp only [slotO, Option.some.injEq, Owner.cell.injEq] at e; rw [← e.1] at hs'; simp [isSl] at hs'
    · rw [hS.env]
      by_cases e' : r' = r
      · subst e'
        rw [hS.here] at ho
        simp only [Option.some.injEq] at ho
        subst ho
        have hob2 : W'.heap[b]? = W.heap[b]? := hW.away b (fun e => by
          rcases hr.kind _ _ hs' h1 with h | h
          · rw [e, c3'] at h; simp at h
          · rw [e, c3'] at h; simp at h)
        refine ⟨b, cO, TO, frO, h1, by simp only at h2 ⊢; rw [hob2]; exact h2, h3, h4, ?_, ?_⟩
        · rw [hoc] at h5 ⊢
          have hall : ∀ v ∈ ob, okMem v = true := fun v hv => by rw [List.all_eq_true] at h6; exact okAt_mem (h6 v hv)
          have hsp : cO.toList = cO.toList.take off ++ (.slice (some ad) n cap :: cO.toList.drop (off + 1)) := by
            have hlt : off < cO.toList.length := by have := SRs.length h5; omega
            have : cO.toList[off] = .slice (some ad) n cap := by
              have h := List.getElem?_eq_getElem hlt
              rw [Array.getElem?_toList, hy1] at h
              simpa using h.symm
            rw [← this, ← List.drop_eq_getElem_cons hlt, List.take_append_drop]
          have hset2 : ob.set off (.own s (es.set i (e.take o ++ (ps ++ e.drop (o + ps.length))))) = ob.take off ++ (.own s (es.set i (e.take o ++ (ps ++ e.drop (o + ps.length)))) :: ob.drop (off + 1)) := by
            rw [List.set_eq_take_append_cons_drop, if_pos hoff]
          rw [hset2, hsp]
          have htl : (ob.take off).length = off := by rw [List.length_take]; omega
          refine SRs.append (SRs.frameI hF (fun j _ hj π => by simp; intro _; omega) (by rw [List.all_eq_true]; exact fun v hv => hall v (List.mem_of_mem_take hv)) (SRs.take off h5)) ?_
          rw [htl, Nat.zero_add]
          simp only [SRs]
          refine ⟨?_, ?_⟩
          · simp only [SR]
            exact c5 W' c' hc' hW
          · have := SRs.drop (off + 1) h5
            rw [Nat.zero_add] at this
            exact SRs.frameI hF (fun j hj _ π => by simp; intro _; omega) (by rw [List.all_eq_true]; exact fun v hv => hall v (List.mem_of_mem_drop hv)) this
        · rw [List.all_eq_true] at h6 ⊢
          intro v hv
          rcases List.mem_or_eq_of_mem_set hv with hv | rfl
          · exact h6 v hv
          · have := h6 _ (List.mem_iff_getElem?.2 ⟨off, hcell⟩)
            cases r' with
            | sl k => simp [isSl] at hs'
            | hp _ => rfl
            | st _ _ => rfl
      · rw [hS.away r' hs2 e'] at ho
        exact ObR.frame hF (fun π => by simp; intro h; exact absurd h e') (by simp) (hr.mem r' ob' hs2 ho hne')
end
end Go.VM

/-
V: stores, whole.
-/
namespace Go.VM
open Go
set_option linter.unusedVariables false
set_option linter.unusedSimpArgs false

section
variable {P : Program} {ba : Ba} {σ : St} {g : Gh} {tmps : Array Value} {W : World}

theorem plains_okMem {l : List SV} {ps : List PV} (h : plains l = some ps) : l.all okMem = true := by
  rw [plains_eq h, List.all_eq_true]
  intro v hv
  obtain ⟨p, _, rfl⟩ := List.mem_map.1 hv
  rfl

theorem freezeC_length : ∀ l : List SV, (freezeC l).length = l.length
  | [] => rfl
  | c :: r => by cases c <;> simp [freezeC, freezeC_length r]

theorem leave_own {k : Nat} {s : Nat} {es : List (List PV)} (x : Opd) (h : getD .undef (leave σ x .undef).env k = .own s es) : getD .undef σ.env k = .own s es := by
  unfold leave at h
  split at h
  · split at h
    · rename_i j _
      simp only [getD_put, getD_mapE _ (kill_undef _)] at h
      split at h
      · simp at h
      · have : isOwn (kill (.sl j) (getD .undef σ.env k)) = true := by rw [h]; rfl
        rw [isOwn_kill] at this
        cases hv : getD .undef σ.env k <;> rw [hv] at this h <;> simp [isOwn] at this
        simpa [kill] using h
    · exact h
  · exact h

theorem storeRow_ok {a : Act} (hr : Rel ba σ g a.tmps W) {ya y : Operand} {xa x0 : Opd} {pl : Place} {s i o : Nat} (hxa : opdOf ya = some xa) (hpa : rd σ xa = .ptr pl) (hrow : pl.row = some (s, i, o)) (hx : opdOf y = some x0) {t : TypeId} {n : Nat} (hn : szOf P t = some n) {σ' : St} (h : storev ba σ n pl x0 = some σ') :
    ∃ g' W', (Instr.storeAt t (a.eval ya) (a.eval y)).run P W = .ok () W' ∧ Rel ba σ' g' a.tmps W' ∧ Ext σ.out.length g g' W W' ∧ σ'.out.length = σ.out.length := by
  obtain ⟨oA, hA⟩ := rd_ok hr hxa
  rw [hpa] at hA
  simp only [SR, PtrR, hrow] at hA
  obtain ⟨ad, m, cap, hh, hsp, hX⟩ := hA
  unfold storev at h
  simp only [hrow, Option.isSome_some, Bool.true_or, if_true] at h
  split at h
  case isTrue => simp at h
  rename_i hsz
  have hsz1 : (take σ (source σ x0)).cells.length = n := by
    rcases Nat.decEq (take σ (source σ x0)).cells.length n with h | h
    · exact absurd (Or.inl h) hsz
    · exact h
  have hn0 : n ≠ 0 := fun e => hsz (Or.inr e)
  simp only [Option.bind_eq_some_iff] at h
  obtain ⟨ob, hob, old, hold, h⟩ := h
  obtain ⟨⟨hu, _⟩, h⟩ := ite_some h
  simp only [Option.map_eq_some_iff] at h
  obtain ⟨σ2, hwr, hfin⟩ := h
  have hov : overwrite (leave σ (source σ x0) .undef) pl old = (leave σ (source σ x0) .undef).env := by unfold overwrite; simp [hrow]
  rw [hov] at hwr
  unfold wrCells at hwr
  obtain ⟨hw, hwr⟩ := ite_some hwr
  simp only [Option.bind_eq_some_iff, hrow] at hwr
  obtain ⟨ob2, hob2, hwr⟩ := hwr
  split at hwr
  case h_2 => simp at hwr
  rename_i t' es ps hcell hps
  obtain ⟨hst, hwr⟩ := ite_some hwr
  subst hst
  simp only [Option.bind_eq_some_iff] at hwr
  obtain ⟨e, he, e', hsp', hset⟩ := hwr
  obtain ⟨hle, rfl⟩ := splice_some hsp'
  obtain ⟨g1, r1, e1, s1, f1⟩ := stored_ok hr hx 0 (σ.out.length + 1) true hu (by simpa using plains_okMem hps)
  simp only [if_true] at s1
  have hpr := SRs.plains s1 hps
  have hlps : ps.length = n := by
    have := plains_eq hps
    have := congrArg List.length this
    rw [freezeC_length, List.length_map] at this
    omega
  obtain ⟨lo1, lo2, lo3⟩ := leave_out (σ := σ) (source σ x0) .undef
  have hh1 : hdr ⟨g1, W, a.tmps, (leave σ (source σ x0) .undef).env⟩ ⟨pl.root, pl.off, none⟩ = some (.slice (some ad) m cap) := by
    cases hroot : pl.root with
    | sl k =>
      simp only [hdr, hroot] at hh ⊢
      split at hh
      case isFalse => simp at hh
      rename_i hc
      rw [if_pos]
      · exact hh
      · refine ⟨hc.1, ?_⟩
        rw [hroot] at hob2
        simp only [St.obj, Option.some.injEq] at hob2
        have hnoagg : ∀ cs, getD .undef (leave σ (source σ x0) .undef).env k ≠ .agg cs := by
          intro cs hcs
          have : isOwn (getD .undef (leave σ (source σ x0) .undef).env k) = true ∨ getD .undef (leave σ (source σ x0) .undef).env k = .undef := by
            unfold leave
            split
            · split
              · simp only [getD_put, getD_mapE _ (kill_undef _)]
                split
                · exact .inr rfl
                · left; rw [isOwn_kill]; exact hc.2
              · exact .inl hc.2
            · exact .inl hc.2
          rcases this with h | h
          · rw [hcs] at h; simp [isOwn] at h
          · rw [hcs] at h; simp at h
        cases hv : getD .undef (leave σ (source σ x0) .undef).env k with
        | agg cs => exact absurd hv (hnoagg cs)
        | own s es => rfl
        | _ => rw [hv] at hob2; simp only at hob2; rw [← hob2, hc.1] at hcell; simp at hcell
    | hp j | st d j =>
      all_goals
        simp only [hdr, hroot, Option.bind_eq_some_iff] at hh ⊢
        obtain ⟨b, q1, q2⟩ := hh
        refine ⟨b, e1.blk _ _ ?_ q1, q2⟩
        first
          | trivial
          | exact Nat.lt_succ_of_le (hr.stIn _ _ _ q1)
  obtain ⟨c, T, fr, c1, c2, c3, c4⟩ := r1.writeRow (xs := (a.eval y).cells.toList) hw hob2 hcell hh1 he hle (by omega) hpr rfl hset
  have hxl := PRs.length hpr
  obtain ⟨W', c', w1, w2, w3⟩ := run_storeAt (P := P) (X := a.eval y) hn (by rw [← Array.length_toList]; omega) c1 c2 (off := ad.off + i * s + o) (by omega) (SRs.oneCells (fun u hu => by
    rw [plains_eq hps] at hu
    obtain ⟨p, _, rfl⟩ := List.mem_map.1 hu
    exact ⟨rfl, rfl⟩) s1)
  obtain ⟨k6, k7, k8, k9⟩ := c4 W' c' (by rw [hlps]; exact w2) w3
  have eAll : Ext σ.out.length g g1 W W' := (Ext.anti (Nat.le_succ _) e1).trans (k7 _)
  have hout2 : σ2.out.length = σ.out.length := by rw [k8, lo1]
  refine ⟨g1, W', by rw [hX]; exact w1, ?_⟩
  cases hsrc : source σ x0 with
  | c w =>
    rw [hsrc] at hfin
    simp only at hfin
    subst hfin
    exact ⟨k6, eAll, hout2⟩
  | t k =>
    rw [hsrc] at hfin
    simp only at hfin
    by_cases ho : owns (take σ (.t k)) = true
    case neg => rw [if_neg ho] at hfin; subst hfin; exact ⟨k6, eAll, hout2⟩
    rw [if_pos ho] at hfin
    subst hfin
    have hku0 : getD .undef (leave σ (source σ x0) .undef).env k = .undef := by rw [hsrc, leave_owns ho, getD_clear, if_pos rfl]
    have hku : getD .undef σ2.env k = .undef := by
      rw [k9 k (by rw [hku0]; rfl), hku0]
    refine ⟨Rel.putU k6 (by rw [hku]; rfl) (thawed_owns _) ?_, eAll, hout2⟩
    unfold thawed
    split
    · rename_i c1 hc1
      have hg1 := f1 rfl k hsrc ho
      refine plain_mono (cx := ⟨g.freeze W k, W, a.tmps, (VM.clear σ k).env⟩) (o := slotO k) hc1 ?_ (frzV_ok hr ho hc1 (hr.taken k ho) _)
      rw [← hg1]
      exact (k7 0).gle
    · simp [SR]

theorem store_ok {a : Act} (hr : Rel ba σ g a.tmps W) {ya y : Operand} {xa x0 : Opd} (hxa : opdOf ya = some xa) (hx : opdOf y = some x0) {t : TypeId} {n : Nat} (hn : szOf P t = some n) {T : Tab} {cF} {dst : Option Nat} {v : SV} {σ' : St} (h : eev T cF ba σ dst (.store n xa x0) = some (v, σ')) :
    ∃ g' W', (Instr.storeAt t (a.eval ya) (a.eval y)).run P W = .ok () W' ∧ GoodE ba σ g a.tmps W v undef σ' g' W' := by
  unfold eev at h
  simp only at h
  split at h
  case h_2 => simp at h
  rename_i pl hpl
  simp only [Option.map_eq_some_iff, Prod.mk.injEq] at h
  obtain ⟨σ2, hs, rfl, rfl⟩ := h
  have : ∃ g' W', (Instr.storeAt t (a.eval ya) (a.eval y)).run P W = .ok () W' ∧ Rel ba σ2 g' a.tmps W' ∧ Ext σ.out.length g g' W W' ∧ σ2.out.length = σ.out.length := by
    cases hrow : pl.row with
    | none => exact storeObj_ok hr hxa hpl hrow hx hn hs
    | some q => obtain ⟨s, i, o⟩ := q; exact storeRow_ok hr hxa hpl hrow hx hn hs
  obtain ⟨g', W', h1, h2, h3, h4⟩ := this
  exact ⟨g', W', h1, h2, h3, by simp [SR], h4⟩
end
end Go.VM

/-
V: append.
-/
namespace Go.VM
open Go
set_option linter.unusedVariables false
set_option linter.unusedSimpArgs false

section
variable {P : Program} {ba : Ba} {σ : St} {g : Gh} {tmps : Array Value} {W : World}

theorem Rel.envEq (hr : Rel ba σ g tmps W) (e' : List (Nat × SV)) (h : ∀ j, getD .undef e' j = getD .undef σ.env j) : Rel ba { σ with env := e' } g tmps W := by
  refine hr.envLess _ _ fun j => ?_
  rw [h]
  refine SR.frame (K := fun _ => True) (cx := ⟨g, W, tmps, σ.env⟩) (cx' := ⟨g, W, tmps, e'⟩) ⟨⟨fun _ _ h => h, fun _ h => h⟩, fun _ _ h => h, fun _ _ _ => ⟨rfl, rfl⟩, trivial⟩ ?_ (fun _ => trivial) (hr.env j)
  intro pl x e
  cases hroot : pl.root with
  | sl i => simp only [hdr, hroot] at e ⊢; rw [h]; exact e
  | hp _ | st _ _ => simp only [hdr, hroot] at e ⊢; exact e

theorem OwnR.name {f : Owner → Owner} {env env' : List (Nat × SV)} {ow : Option Owner} {s : Nat} {es : List (List PV)} {x : Value} (h : OwnR ⟨g, W, tmps, env⟩ ow s es x) : OwnR ⟨g.name f, W, tmps, env'⟩ (ow.map f) s es x := by
  obtain ⟨a, n', cap, e1, e2, e3, e4, e5, e6⟩ := h
  refine ⟨a, n', cap, e1, e2, e3, e4, e5, ?_⟩
  rcases e6 with e6 | ⟨c1, T1, fr1, f1, f2, f3, f4, f5⟩
  · exact .inl e6
  · exact .inr ⟨c1, T1, fr1, f1, f2, by simp only at f3; simp [Gh.name, f3], f4, PRss.mono (gle_name g _) _ _ f5⟩

/-- an own slice is taken out of its place -/
theorem Rel.takePlace {r : Root} {off s : Nat} {es : List (List PV)} {ob : Obj} {ad : Addr} {n cap : Nat} {σ1 : St} (hr : Rel ba σ g tmps W) (hw : writable ba r = true) (hob : σ.obj r = some ob) (hcell : ob[off]? = some (.own s es))
    (hh : hdr ⟨g, W, tmps, σ.env⟩ ⟨r, off, none⟩ = some (.slice (some ad) n cap)) (hset : σ.setObj r (ob.set off .undef) = some σ1) :
    ∃ f : Owner → Owner, Rel ba { σ1 with env := mapE (kill r) σ1.env } (g.name f) tmps W ∧ σ1.out.length = σ.out.length ∧
      ∀ env', OwnR ⟨g.name f, W, tmps, env'⟩ (some (.res [])) s es (.slice (some ad) n cap) := by
  by_cases hs : isSl r = true
  · cases r with
    | hp _ | st _ _ => simp [isSl] at hs
    | sl k =>
      simp only [hdr] at hh
      split at hh
      case isFalse => simp at hh
      rename_i hc
      obtain ⟨hoff, hown⟩ := hc
      subst hoff
      have hv : getD .undef σ.env k = .own s es := by
        simp only [St.obj, Option.some.injEq] at hob
        cases hv : getD .undef σ.env k <;> rw [hv] at hown hob <;> simp [isOwn] at hown
        subst hob
        simpa using hcell
      have hobe : ob = [.own s es] := by simp only [St.obj, hv, Option.some.injEq] at hob; exact hob.symm
      subst hobe
      simp only [List.set_cons_zero, St.setObj, Option.some.injEq] at hset
      subst hset
      obtain ⟨h1, h2⟩ := hr.move k .res (by rw [hv]; rfl)
      refine ⟨fSlot k .res, ?_, rfl, ?_⟩
      · have := h1.envEq (mapE (kill (.sl k)) (VM.put σ.env k .undef)) (fun j => by
          rw [getD_clear, getD_mapE _ (kill_undef _), getD_put]
          split
          · exact kill_undef _
          · rfl)
        exact this
      · intro env'
        have hk := hr.env k
        rw [hv, Array.getD_eq_getD_getElem?, hh] at hk
        simp only [SR, Option.getD_some] at hk
        have := hk.name (f := fSlot k .res) (env' := env')
        simpa [slotO, fSlot] using this
  · have hs' : isSl r = false := by simpa using hs
    have hne : ob ≠ [] := by intro e; rw [e] at hcell; simp at hcell
    have hOb := hr.mem r ob hs' hob hne
    have hoff : off < ob.length := (List.getElem?_eq_some_iff.1 hcell).1
    have hset2 : ob.set off .undef = ob.take off ++ (List.replicate 1 .undef ++ ob.drop (off + 1)) := by
      rw [List.set_eq_take_append_cons_drop, if_pos hoff]; rfl
    rw [hset2] at hset
    have hS := setObj_ok hs' hob hset
    have hrf := hr.setObj hs' hS (fun _ => ObR.forget off 1 (by omega) hOb)
    have htl : (ob.take off).length = off := by rw [List.length_take]; omega
    have hn := hrf.rescueCell (off := off) (t := .res) hs' hw hS.here (by rw [List.getElem?_append_right (by omega), htl]; simp)
    refine ⟨fResc r off .res, ?_, hS.out, ?_⟩
    · refine hn.envLess _ _ fun j => ?_
      rw [getD_mapE _ (kill_undef _)]
      refine SR.frame (K := fun _ => True) (cx := ⟨g.name (fResc r off .res), W, tmps, σ1.env⟩) (cx' := ⟨g.name (fResc r off .res), W, tmps, mapE (kill r) σ1.env⟩) ⟨⟨fun _ _ h => h, fun _ h => h⟩, fun _ _ h => h, fun _ _ _ => ⟨rfl, rfl⟩, trivial⟩ ?_ (fun _ => trivial) (kill_less _ (hn.env j))
      intro pl x e
      cases hroot : pl.root with
      | sl i => simp only [hdr, hroot] at e ⊢; rw [getD_mapE _ (kill_undef _), isOwn_kill]; exact e
      | hp _ | st _ _ => simp only [hdr, hroot] at e ⊢; exact e
    · intro env'
      obtain ⟨b, c, T, fr, h1, h2, h3, h4, h5, h6⟩ := hOb
      obtain ⟨y, hy1, hy2⟩ := SRs.get off h5 hcell
      simp only [Array.getElem?_toList, Nat.zero_add] at hy1 hy2
      have hy : y = .slice (some ad) n cap := by
        have : (g.blk r).bind (fun b => W.cell? ⟨b, off, none⟩) = some (.slice (some ad) n cap) := by
          cases r with
          | sl k => simp [isSl] at hs'
          | hp i => exact hh
          | st d i => exact hh
        simp only at h1 h2
        rw [h1] at this
        simp only [Option.bind_some] at this
        rw [cell_of_block h2, hy1] at this
        simpa using this
      subst hy
      simp only [SR, ownerOf, hw, if_true] at hy2
      have := OwnR.name (f := fResc r off .res) (env' := env') hy2
      simpa [fResc] using this

/-- a write into what the operation has as its own -/
theorem Rel.writeRes (hr : Rel ba σ g tmps W) {B : Nat} {W' : World} {C : Array Value} {T : TypeId} {fr : Nat × Nat} {π : List Nat} (hB : g.own B = some (.res π)) (hW : Wrote W W' B C T fr) : Rel ba σ g tmps W' ∧ ∀ d, Ext d g g W W' := by
  have hF : Fr (fun ow => ow ≠ some (.res π)) ⟨g, W, tmps, σ.env⟩ ⟨g, W', tmps, σ.env⟩ := frW hW (by rw [hB]; simp) (by simp)
  have hd := hdrW hr hW hB (by simp) (env' := σ.env) (fun j hj => hj)
  refine ⟨⟨fun j => SR.frame hF hd (fun π => by simp [slotO]) (hr.env j), fun r' ob' hs' ho hne => ObR.frame hF (fun π => by simp) (by simp) (hr.mem r' ob' hs' ho hne), fun b c h => ?_, fun b h => hr.alive b (by rw [← hW.size]; exact h), hr.perm, hr.base, hr.hpIn, hr.stIn,
    fun r b h => by rw [hW.size]; exact hr.lt r b h, hr.inj, hr.kind⟩, fun d => ⟨by rw [hW.size]; exact Nat.le_refl _, fun b' _ h => ⟨h, hW.away b' (fun e => by rw [e, hB] at h; simp at h)⟩, fun _ _ h => h, fun _ h => h, fun _ h => .inl h, fun _ _ _ h => h, fun _ _ h => .inl h, hW.os, hW.tape, hW.output⟩⟩
  obtain ⟨k1, k2⟩ := hr.stab b c h
  exact ⟨k1, by rw [cellsAt_of_heap (hW.away b (fun e => by rw [e, hB] at k1; simp at k1))]; exact k2⟩

/-- what is appended: its rows as cells -/
theorem src_ok (hr : Rel ba σ g tmps W) {str : Bool} {s : Nat} {tx : TypeId} {Y : Value} {y : SV} {ys : List (List PV)} {o : List Nat → Option Owner} (hrows : (if str then (match y with | .p (.str l) => some (byteRows l) | _ => none) else rowsOf σ y) = some ys) (hy : SR ⟨g, W, tmps, σ.env⟩ o y Y)
    (hk : if str then P.underlying tx = some .string ∧ s = 1 else ∃ e', P.underlying tx = some (.slice e')) (hall : (ys.all fun e => e.length == s) = true) (hs0 : s ≠ 0) :
    ∃ news, Src P s tx Y ys.length news W ∧ PRs g ys.flatten news ∧ lensAre s ys := by
  have hl : lensAre s ys := by
    rw [lensAre_iff]
    rw [List.all_eq_true] at hall
    intro e he
    simpa using hall e he
  cases str with
  | true =>
    simp only [if_true] at hrows hk
    have hl0 : ∃ l, y = .p (.str l) ∧ byteRows l = ys := by
      cases y with
      | p v => cases v with
        | str l => simp only [Option.some.injEq] at hrows; exact ⟨l, rfl, hrows⟩
        | _ => simp at hrows
      | _ => simp at hrows
    obtain ⟨l, rfl, rfl⟩ := hl0
    simp only [SR, PR] at hy
    obtain ⟨B, rfl, rfl⟩ := hy
    obtain ⟨b1, b2, b3⟩ := byteRows_ok g B.data.toList
    obtain ⟨hk1, rfl⟩ := hk
    refine ⟨byteCells B, ?_, b1, b2⟩
    rw [b3]
    have := Src.ofString W hk1 B
    simpa using this
  | false =>
    simp only [Bool.false_eq_true, if_false] at hrows hk
    obtain ⟨e', hk⟩ := hk
    obtain ⟨ad, n, cap, rfl, hn, hc, h3⟩ := rows_ok hr hrows hy
    subst hn
    rcases h3 with h3 | ⟨b, s', c, rfl, h4, h5, h6, h7⟩
    · have : ys = [] := List.length_eq_zero_iff.1 h3
      subst this
      cases ad with
      | none => exact ⟨[], Src.ofNil W hk cap, by simp [PRs], hl⟩
      | some b => exact ⟨[], Src.ofSlice W hk b 0 cap [] (by simp) (by simp) (by simp), by simp [PRs], hl⟩
    · have hlen : ys.length * s ≤ (c.toList.drop b.off).length := by
        rcases PRss.length hl h7 with h | h
        · exact h
        · exact absurd h hs0
      have hp := flat_PRss hl (l := (c.toList.drop b.off).take (ys.length * s)) (by rw [List.length_take]; omega) (PRss.upTo hl (by simp [List.take_take]) h7)
      refine ⟨(c.toList.drop b.off).take (ys.length * s), Src.ofSlice W hk b _ cap _ (by rw [List.length_take]; omega) ?_ ?_, hp, hl⟩
      · intro j u hu
        rw [add_of h4, cell_of_cellsAt h6]
        rw [List.getElem?_take] at hu
        split at hu
        · simpa using hu
        · simp at hu
      · intro u hu
        obtain ⟨j, hj⟩ := List.mem_iff_getElem?.1 hu
        have hlp := PRs.length hp
        have hjl := (List.getElem?_eq_some_iff.1 hj).1
        have : ∃ p, ys.flatten[j]? = some p := ⟨_, List.getElem?_eq_getElem (by omega)⟩
        obtain ⟨p, hp1⟩ := this
        obtain ⟨u', hu1, hu2⟩ := PRs.get j hp hp1
        rw [hj] at hu1
        simp only [Option.some.injEq] at hu1; subst hu1
        exact hu2.oneCell
end
end Go.VM

/-
V: append, whole.
-/
namespace Go.VM
open Go
set_option linter.unusedVariables false
set_option linter.unusedSimpArgs false

section
variable {P : Program} {ba : Ba} {σ : St} {g : Gh} {tmps : Array Value} {W : World}

theorem Ext.heapEq {d : Nat} {W' : World} (h : W'.heap = W.heap) (h1 : W'.os = W.os) (h2 : W'.tape = W.tape) (h3 : W'.output = W.output) : Ext d g g W W' :=
  ⟨by rw [h]; exact Nat.le_refl _, fun _ _ e => ⟨e, by rw [h]⟩, fun _ _ h => h, fun _ h => h, fun _ h => .inl h, fun _ _ _ h => h, fun _ _ h => .inl h, h1, h2, h3⟩

theorem arr_split (l : List Value) (z : Array Value) : l.toArray ++ z = (l ++ z.toList).toArray := by
  apply Array.ext'
  simp

/-- a new row of what was there and what is appended -/
theorem grown_ok {σ1 : St} {a : Act} (hr : Rel ba σ1 g a.tmps W) {s : Nat} {es : List (List PV)} {cells : List Value} {zs : List Value} {e : TypeId} {n cap : Nat} (hl : lensAre s es) (hn : es.length = n) (hc : n ≤ cap) (hp : PRs g es.flatten cells) (hz : zs.length = (cap - n) * s) :
    GoodE ba σ1 g a.tmps W (.own s es) (.slice (some ⟨W.heap.size, 0, none⟩) n cap) σ1 (g.grow W.heap.size (some (.res []))) (World.push W.drew (cells ++ zs).toArray e (0, 0)) := by
  have hr1 : Rel ba σ1 g a.tmps W.drew := hr.heapEq rfl
  have hlen := PRs.length hp
  rw [flatten_length hl, hn] at hlen
  have hsz : cap * s ≤ (cells ++ zs).toArray.size := by
    simp only [List.size_toArray, List.length_append, hz, hlen, ← Nat.add_mul]
    exact Nat.mul_le_mul_right s (by omega)
  have hpp : PRss g es (cells ++ zs).toArray.toList := by
    refine PRss.upTo (l := cells) hl ?_ (PRss_flat hl hp)
    show cells.take _ = (cells ++ zs).take _
    rw [hn, List.take_append_of_le_length (by omega)]
  have hG := own_new hr1 (c := (cells ++ zs).toArray) (T := e) (fr := (0, 0)) hn hc hl hsz (.inl (Nat.le_refl _)) hpp
  exact ⟨hG.rel, (Ext.heapEq (g := g) (W := W) (W' := W.drew) rfl rfl rfl rfl).trans hG.ext, hG.val, rfl⟩

theorem append_ok {a : Act} (hr : Rel ba σ g a.tmps W) {xo yo : Operand} {x y : Opd} (hx : opdOf xo = some x) (hy : opdOf yo = some y) {t tx e : TypeId} {i : TypeInfo} {z : List SV} (ht : P.underlying t = some (.slice e)) (hi : P.info? e = some i) (hz : zeroOf P e = some z) (hzl : z.length = i.size) (hs0 : i.size ≠ 0)
    {str : Bool} (hk : if str then P.underlying tx = some .string ∧ i.size = 1 else ∃ e', P.underlying tx = some (.slice e')) {v : SV} {σ' : St} (h : appendv ba σ str i.size i.bytes x (rd σ y) = some (v, σ')) (ty : TypeId) :
    ∃ X g' W', (Builtin.append_ #[t, tx] ty #[a.eval xo, a.eval yo]).run P W = .ok X W' ∧ GoodE ba σ g a.tmps W v X σ' g' W' := by
  obtain ⟨zv, hzv1, hzv2, i', hi', hiz⟩ := zeroOf_ok (W := W) (cx := ⟨g, W, a.tmps, σ.env⟩) hz
  rw [hi] at hi'; simp only [Option.some.injEq] at hi'; subst hi'
  have hzs : zv.cells.size = i.size := by have := AnyRs.length hzv2; simp only [Array.length_toList] at this; omega
  unfold appendv at h
  simp only [Option.bind_eq_some_iff] at h
  obtain ⟨ys, hys, h⟩ := h
  split at h
  case isTrue => simp at h
  rename_i hall
  have hall' : (ys.all fun e => e.length == i.size) = true := by simpa using hall
  obtain ⟨o2, hyR⟩ := rd_ok hr hy
  obtain ⟨news, hsrc, hnew, hly⟩ := src_ok (P := P) hr hys hyR hk hall' hs0
  obtain ⟨o1, hxR⟩ := rd_ok hr hx
  have hnl := hsrc.newsLen
  split at h
  · rename_i hxv
    rw [hxv] at hxR
    simp only [SR, PR] at hxR
    rw [hxR]
    split at h
    · rename_i hemp
      simp only [Option.some.injEq, Prod.mk.injEq] at h
      obtain ⟨rfl, rfl⟩ := h
      have hye : ys = [] := by simpa using hemp
      subst hye
      refine ⟨.slice none 0 0, g, W, ?_, hr, Ext.refl _ _ _, by simp [SR, PR], rfl⟩
      have hcl := hsrc.cells
      have hle := hsrc.len
      simp only [List.length_nil] at hcl hle
      rcases hsrc.kind with ⟨e', hk'⟩ | hk' <;> simp [Builtin.append_, run_underlying ht, run_underlying hk', sizeOf, typeInfo, hi, hle, hcl]
    · rename_i hemp
      obtain ⟨⟨hb1, hb2⟩, h⟩ := ite_some h
      simp only [Option.some.injEq, Prod.mk.injEq] at h
      obtain ⟨rfl, rfl⟩ := h
      have hpos : 0 < ys.length := by
        cases ys with
        | nil => simp at hemp
        | cons a r => simp
      have hrun := run_append_grow_src W t tx ty e i zv ht hi hiz none 0 0 [] (run_firstCells_none W.drew i.size 0 0 0) (a.eval yo) ys.length news hsrc (by omega) (by omega) (growslice_fits (by omega) (by rw [Nat.zero_add]; omega))
      have hge := grownCap_ge W (0 + ys.length) 0 e
      have hG := grown_ok hr (e := e) (zs := (Builtin.zeroCells zv.cells (grownCap W (0 + ys.length) 0 e - (0 + ys.length))).toList) (cells := news) (n := ys.length) (cap := grownCap W (0 + ys.length) 0 e) hly rfl (by omega) hnew (by
        simp only [Array.length_toList, size_zeroCells, hzs, Nat.zero_add])
      have e1 : (W.drew.alloc (.cells (([] ++ news).toArray ++ Builtin.zeroCells zv.cells (grownCap W (0 + ys.length) 0 e - (0 + ys.length))) e)) = World.push W.drew (news ++ (Builtin.zeroCells zv.cells (grownCap W (0 + ys.length) 0 e - (0 + ys.length))).toList).toArray e (0, 0) := by
        rw [arr_split]; rfl
      rw [e1] at hrun
      have e2 : W.drew.heap.size = W.heap.size := rfl
      refine ⟨_, _, _, ?_, hG⟩
      rw [hrun, Nat.zero_add]
  · rename_i pl t' lo n hxv
    rw [hxv] at hxR
    simp only [SR, AlR] at hxR
    obtain ⟨hrow, ad, m, cap, b, cap', hh, had, q3, q4, hX, q5, q6, q7⟩ := hxR
    simp only [Option.bind_eq_some_iff] at h
    obtain ⟨zz, hzz, xs, hxs, h⟩ := h
    obtain ⟨⟨c1, c2, c3, c4, hw⟩, h⟩ := ite_some h
    simp only [Option.bind_eq_some_iff, Option.map_eq_some_iff, Prod.mk.injEq] at h
    obtain ⟨cs, hcs, σ1, hset, rfl, rfl⟩ := h
    have hpl := place_eta hrow
    obtain ⟨s', es⟩ := zz
    simp only at c1 hxs
    subst c1; subst c2
    have hcell : cs[pl.off]? = some (.own i.size es) := by
      unfold rdOwn at hzz
      rw [hrow] at hzz
      simp only [hcs, Option.bind_some] at hzz
      split at hzz
      · rename_i s1 es1 heq
        simp only [Option.some.injEq, Prod.mk.injEq] at hzz
        obtain ⟨rfl, rfl⟩ := hzz
        exact heq
      · simp at hzz
    obtain ⟨hxle, rfl⟩ := sub_some hxs
    rw [hpl] at hh
    obtain ⟨f, k1, k2, k3⟩ := hr.takePlace hw hcs hcell hh hset
    have hO := al_own (k3 (mapE (kill pl.root) σ1.env)) q3 q5 q6 q7
    have hnew' := PRs.mono (gle_name g f) _ _ hnew
    have hxl : ((es.drop lo).take n).length = n := by rw [List.length_take, List.length_drop]; omega
    obtain ⟨_, _, _, hX0, _, _, _, hlx, hO2⟩ := hO
    simp only [Value.slice.injEq, Option.some.injEq] at hX0
    obtain ⟨rfl, rfl, rfl⟩ := hX0
    have hlxy := lensAre.append hlx hly
    rw [hX, addr_eta q6]
    by_cases hroom : n + ys.length ≤ cap'
    · rcases hO2 with hO2 | ⟨C, T, fr, f1, f2, f3, f4, f5⟩
      · have hy0 : ys = [] := List.length_eq_zero_iff.1 (by omega)
        have hnews0 : news = [] := List.length_eq_zero_iff.1 (by rw [hnl, hy0]; simp)
        have hrun := run_append_room_src W t tx ty e i ht hi b.block b.off n cap' (a.eval yo) ys.length news hsrc hroom (by rw [hnews0]; simp) (by rw [hnews0]; simp)
        refine ⟨_, g.name f, _, hrun, ?_⟩
        rw [hnews0]
        refine ⟨k1, Ext.name _ f, ?_, k2⟩
        simp only [SR, OwnR]
        exact ⟨_, _, cap', rfl, by simp [hxl], hroom, rfl, hlxy, .inl hO2⟩
      · simp only at f1 f3 f5
        have hmul : (n + ys.length) * i.size ≤ cap' * i.size := Nat.mul_le_mul_right _ hroom
        rw [Nat.add_mul] at hmul
        have hrun := run_append_room_src W t tx ty e i ht hi b.block b.off n cap' (a.eval yo) ys.length news hsrc hroom (by
            intro j hj
            rw [cell_of_block f1]
            have : b.off + n * i.size + j < C.size := by omega
            rw [Array.getElem?_eq_getElem this]; rfl) (by
            intro j hj
            obtain ⟨lo', hi'⟩ := fr
            simp only [World.frozen?, f1, Bool.and_eq_false_iff, decide_eq_false_iff_not]
            rcases f2 with hu | hu <;> simp only at hu <;> omega)
        obtain ⟨C', w1, w2⟩ := wrote_setCells b.block T fr news (b.off + n * i.size) W C f1 (by omega)
        obtain ⟨k4, k5⟩ := k1.writeRes f3 w2
        refine ⟨_, g.name f, _, hrun, k4, (Ext.name _ f).trans (k5 _), ?_, k2⟩
        have hCsz : C'.size = C.size := by
          have := congrArg List.length w1
          simp only [Array.length_toList, List.length_append, List.length_take, List.length_drop] at this
          omega
        simp only [SR, OwnR]
        refine ⟨_, _, cap', rfl, by simp [hxl], hroom, rfl, hlxy, .inr ⟨C', T, fr, w2.here, by rw [hCsz]; exact f2, f3, by rw [hCsz]; exact f4, ?_⟩⟩
        have hd : C'.toList.drop b.off = (C.toList.drop b.off).take (n * i.size) ++ (news ++ C.toList.drop (b.off + n * i.size + news.length)) := by
          rw [w1, List.drop_append_of_le_length (by rw [List.length_take, Array.length_toList]; omega), List.drop_take]
          congr 2; omega
        rw [hd]
        refine PRss.append hlx ?_ (PRss.upTo hlx ?_ f5) ?_
        · rw [List.length_take, List.length_drop, Array.length_toList, hxl]; omega
        · rw [hxl, List.take_take, Nat.min_self]
        · refine PRss.upTo (l := news) hly ?_ (PRss_flat hly hnew')
          rw [← hnl, List.take_left, List.take_length]
    · have holds : ∃ olds : List Value, (Builtin.firstCells i.size n (.slice (some ⟨b.block, b.off, none⟩) n cap')).run P W.drew = .ok olds.toArray W.drew ∧ PRs (g.name f) ((es.drop lo).take n).flatten olds := by
        rcases hO2 with hO2 | ⟨C, T, fr, f1, f2, f3, f4, f5⟩
        · have hn0 : n = 0 := by omega
          subst hn0
          exact ⟨[], run_firstCells_some W.drew i.size 0 _ 0 cap' [] (by simp) (by simp), by simp [PRs]⟩
        · simp only at f1 f5
          have hmul : n * i.size ≤ cap' * i.size := Nat.mul_le_mul_right _ q5
          refine ⟨(C.toList.drop b.off).take (n * i.size), run_firstCells_some W.drew i.size n _ n cap' _ (by rw [List.length_take, List.length_drop, Array.length_toList]; omega) ?_, ?_⟩
          · intro j u hu
            rw [add_mk]
            have : W.drew.cell? ⟨b.block, b.off + j, none⟩ = W.cell? ⟨b.block, b.off + j, none⟩ := rfl
            rw [this, cell_of_block f1]
            rw [List.getElem?_take] at hu
            split at hu
            · simpa using hu
            · simp at hu
          · refine flat_PRss hlx (by rw [List.length_take, List.length_drop, Array.length_toList, hxl]; omega) (PRss.upTo hlx ?_ f5)
            rw [hxl, List.take_take, Nat.min_self]
      obtain ⟨olds, hold1, hold2⟩ := holds
      have hcap : cap' < n + ys.length := by omega
      have hrun := run_append_grow_src W t tx ty e i zv ht hi hiz (some ⟨b.block, b.off, none⟩) n cap' olds hold1 (a.eval yo) ys.length news hsrc hcap (by omega) (growslice_fits hcap (by omega))
      have hge := grownCap_ge W (n + ys.length) cap' e
      have hG := grown_ok k1 (e := e) (zs := (Builtin.zeroCells zv.cells (grownCap W (n + ys.length) cap' e - (n + ys.length))).toList) (cells := olds ++ news) (n := n + ys.length) (cap := grownCap W (n + ys.length) cap' e) hlxy (by simp [hxl]) hge (by rw [List.flatten_append]; exact PRs.append hold2 hnew') (by
        simp only [Array.length_toList, size_zeroCells, hzs])
      have e1 : (W.drew.alloc (.cells ((olds ++ news).toArray ++ Builtin.zeroCells zv.cells (grownCap W (n + ys.length) cap' e - (n + ys.length))) e)) = World.push W.drew ((olds ++ news) ++ (Builtin.zeroCells zv.cells (grownCap W (n + ys.length) cap' e - (n + ys.length))).toList).toArray e (0, 0) := by
        rw [arr_split]; rfl
      rw [e1] at hrun
      exact ⟨_, _, _, hrun, GoodE.after (σ1 := { σ1 with env := mapE (kill pl.root) σ1.env }) (Ext.name _ f) k2 hG⟩
  · simp at h
end
end Go.VM

