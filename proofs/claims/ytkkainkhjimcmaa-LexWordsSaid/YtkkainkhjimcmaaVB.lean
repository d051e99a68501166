import Derived.Below
import Derived.Laws.Cells
import Derived.Laws.StructEq
import Derived.WideLaws
import Derived.WalkSpells
import Derived.IntWalk
import Derived.Laws.Tables
import Derived.Test.YtkkainkhjimcmaaVA
/-
V: what the machine's values and state say of memory: the relation, and how it stays.
-/
namespace Go.VM
set_option linter.unusedVariables false
set_option linter.unusedSimpArgs false

/-- who owns a block: an object, a cell of an object or a slot's value, the value that an operation is about to hand on -/
inductive Owner where
  | obj (r : Root)
  | cell (r : Root) (π : List Nat)
  | res (π : List Nat)
  deriving DecidableEq

structure Gh where
  blk : Root → Option Nat
  own : Nat → Option Owner
  Ψ : Nat → Option (Array Value)
  Φ : Nat → Bool

structure Cx where
  g : Gh
  W : World
  tmps : Array Value
  env : List (Nat × SV)

def cellsAt (W : World) (b : Nat) : Option (Array Value) :=
  match W.heap[b]? with
  | some (.cells c _ _) => some c
  | _ => none

mutual
def PR (g : Gh) : PV → Value → Prop
  | .int k n, x => x = .int k n
  | .bool b, x => x = .bool b
  | .str l, x => ∃ s : ByteArray, x = .string s ∧ s.data.toList = l
  | .nils, x => x = .slice none 0 0
  | .ro s es, x => ∃ a n cap, x = .slice (some a) n cap ∧ es.length = n ∧ n ≤ cap ∧ (n ≠ 0 → a.spot = none) ∧
      (n = 0 ∨ (g.Φ a.block = true ∧ lensAre s es ∧ ∃ c, g.Ψ a.block = some c ∧ PRss g es (c.toList.drop a.off)))
def PRs (g : Gh) : List PV → List Value → Prop
  | [], [] => True
  | v :: vs, x :: xs => PR g v x ∧ PRs g vs xs
  | _, _ => False
def PRss (g : Gh) : List (List PV) → List Value → Prop
  | [], _ => True
  | e :: r, l => PRs g e (l.take (lenL e)) ∧ PRss g r (l.drop (lenL e))
def lenL : List PV → Nat
  | [] => 0
  | _ :: r => lenL r + 1
def lensAre (s : Nat) : List (List PV) → Prop
  | [] => True
  | e :: r => lenL e = s ∧ lensAre s r
end

theorem lenL_eq (e : List PV) : lenL e = e.length := by induction e with
  | nil => rfl
  | cons a r ih => simp [lenL, ih]
theorem lensAre_iff (s : Nat) (es : List (List PV)) : lensAre s es ↔ ∀ e ∈ es, e.length = s := by induction es with
  | nil => simp [lensAre]
  | cons a r ih => simp [lensAre, ih, lenL_eq]

def hdr (cx : Cx) (pl : Place) : Option Value :=
  match pl.root with
  | .sl k => if pl.off = 0 ∧ isOwn (getD .undef cx.env k) = true then cx.tmps[k]? else none
  | r => (cx.g.blk r).bind fun b => cx.W.cell? ⟨b, pl.off, none⟩

def Unfr (fr : Nat × Nat) (n : Nat) : Prop := fr.2 ≤ fr.1 ∨ n ≤ fr.1

def OwnR (cx : Cx) (ow : Option Owner) (s : Nat) (es : List (List PV)) (x : Value) : Prop :=
  ∃ a n cap, x = .slice (some a) n cap ∧ es.length = n ∧ n ≤ cap ∧ a.spot = none ∧ lensAre s es ∧
    (cap = 0 ∨ ∃ c T fr, cx.W.heap[a.block]? = some (.cells c T fr) ∧ Unfr fr c.size ∧ cx.g.own a.block = ow ∧ a.off + cap * s ≤ c.size ∧ PRss cx.g es (c.toList.drop a.off))

def LentR (cx : Cx) (s : Nat) (es : List (List PV)) (x : Value) : Prop :=
  ∃ a n cap, x = .slice (some a) n cap ∧ es.length = n ∧ n ≤ cap ∧ a.spot = none ∧
    (n = 0 ∨ (lensAre s es ∧ ∃ c, cx.g.Ψ a.block = some c ∧ PRss cx.g es (c.toList.drop a.off)))

def AlR (cx : Cx) (pl : Place) (s lo n : Nat) (x : Value) : Prop :=
  pl.row = none ∧ ∃ a m cap b cap', hdr cx pl = some (.slice (some a) m cap) ∧ a.spot = none ∧ lo + n ≤ m ∧ m ≤ cap ∧
    x = .slice (some b) n cap' ∧ n ≤ cap' ∧ b.spot = none ∧ (cap' = 0 ∨ (b.block = a.block ∧ b.off = a.off + lo * s ∧ lo + cap' = cap))

def PtrR (cx : Cx) (pl : Place) (x : Value) : Prop :=
  match pl.row with
  | none => isSl pl.root = false ∧ ∃ b, cx.g.blk pl.root = some b ∧ x = .pointer (some ⟨b, pl.off, none⟩)
  | some (s, e, o) => ∃ a m cap, hdr cx { pl with row := none } = some (.slice (some a) m cap) ∧ a.spot = none ∧ x = .pointer (some ⟨a.block, a.off + e * s + o, none⟩)

def CptrR (cx : Cx) (cs : List PV) (x : Value) : Prop :=
  ∃ b off c, x = .pointer (some ⟨b, off, none⟩) ∧ cx.g.Ψ b = some c ∧ PRs cx.g cs ((c.toList.drop off).take cs.length)

mutual
def SR (cx : Cx) (o : List Nat → Option Owner) : SV → Value → Prop
  | .p v, x => PR cx.g v x
  | .pagg cs, x => ∃ a : Array Value, x = .agg a ∧ PRs cx.g cs a.toList
  | .own s es, x => OwnR cx (o []) s es x
  | .lent s es, x => LentR cx s es x
  | .al pl s lo n, x => AlR cx pl s lo n x
  | .ptr pl, x => PtrR cx pl x
  | .cptr cs, x => CptrR cx cs x
  | .nilp, x => x = .pointer none
  | .fn f caps, x => ∃ a : Array Value, x = .func (.func f) #[] a ∧ SRs cx (fun _ => none) 0 caps a.toList
  | .nilf, x => x = .nilFunc
  | .agg cs, x => ∃ a : Array Value, x = .agg a ∧ SRs cx o 0 cs a.toList
  | .tup vs, x => ∃ a : Array Value, x = .tuple a ∧ SRs cx o 0 vs a.toList
  | .undef, _ => True
def SRs (cx : Cx) (o : List Nat → Option Owner) : Nat → List SV → List Value → Prop
  | _, [], [] => True
  | i, v :: vs, x :: xs => SR cx (fun π => o (i :: π)) v x ∧ SRs cx o (i + 1) vs xs
  | _, _, _ => False
end

def ownerOf (ba : Ba) (r : Root) (o : Owner) : Option Owner := if writable ba r then some o else none

/-- an object's cells lie in a block -/
def ObR (cx : Cx) (ba : Ba) (r : Root) (ob : Obj) : Prop :=
  ∃ b c T fr, cx.g.blk r = some b ∧ cx.W.heap[b]? = some (.cells c T fr) ∧ Unfr fr c.size ∧ cx.g.own b = ownerOf ba r (.obj r) ∧
    SRs cx (fun π => ownerOf ba r (.cell r π)) 0 ob c.toList ∧ ob.all (okAt r) = true

theorem okCaps_mem {h : Bool} {d : Nat} : ∀ {l : List SV}, okCell.okCaps h d l = true → okMem.okCaps l = true
  | [], _ => rfl
  | .ptr pl :: r, e => by
    simp only [okCell.okCaps, Bool.and_eq_true] at e
    simp only [okMem.okCaps, Bool.and_eq_true]
    refine ⟨⟨e.1.1, ?_⟩, okCaps_mem e.2⟩
    have := e.1.2
    split at this <;> simp_all [isSl]
  | .p _ :: _, e => by simp [okCell.okCaps] at e
  | .pagg _ :: _, e => by simp [okCell.okCaps] at e
  | .own _ _ :: _, e => by simp [okCell.okCaps] at e
  | .lent _ _ :: _, e => by simp [okCell.okCaps] at e
  | .al _ _ _ _ :: _, e => by simp [okCell.okCaps] at e
  | .cptr _ :: _, e => by simp [okCell.okCaps] at e
  | .nilp :: _, e => by simp [okCell.okCaps] at e
  | .fn _ _ :: _, e => by simp [okCell.okCaps] at e
  | .nilf :: _, e => by simp [okCell.okCaps] at e
  | .agg _ :: _, e => by simp [okCell.okCaps] at e
  | .tup _ :: _, e => by simp [okCell.okCaps] at e
  | .undef :: _, e => by simp [okCell.okCaps] at e
theorem okCell_mem {h : Bool} {d : Nat} {v : SV} (e : okCell h d v = true) : okMem v = true := by
  cases v <;> simp only [okCell, Bool.false_eq_true] at e <;> simp only [okMem]
  case ptr pl =>
    simp only [Bool.and_eq_true] at e ⊢
    refine ⟨e.1, ?_⟩
    have := e.2
    split at this <;> simp_all [isSl]
  case fn f c => exact okCaps_mem e
theorem okAt_mem {r : Root} {v : SV} (e : okAt r v = true) : okMem v = true := by
  unfold okAt at e
  split at e
  · rfl
  · split at e
    · exact okCell_mem e
    · exact okCell_mem e
    · simp at e
theorem okAt_all {r : Root} {l : List SV} (e : l.all (okAt r) = true) : l.all okMem = true := by
  rw [List.all_eq_true] at e ⊢
  exact fun v hv => okAt_mem (e v hv)

def slotO (k : Nat) : List Nat → Option Owner := fun π => some (.cell (.sl k) π)

structure Rel (ba : Ba) (σ : St) (g : Gh) (tmps : Array Value) (W : World) : Prop where
  env : ∀ k, SR ⟨g, W, tmps, σ.env⟩ (slotO k) (getD .undef σ.env k) (tmps.getD k undef)
  mem : ∀ r ob, isSl r = false → σ.obj r = some ob → ob ≠ [] → ObR ⟨g, W, tmps, σ.env⟩ ba r ob
  stab : ∀ b c, g.Ψ b = some c → g.own b = none ∧ cellsAt W b = some c
  alive : ∀ b, W.heap.size ≤ b → g.own b = none ∧ g.Ψ b = none
  perm : ∀ b, g.Φ b = true → ∃ c, g.Ψ b = some c
  base : ba.hb ≤ σ.hp.length ∧ ba.sb ≤ σ.out.length
  hpIn : ∀ i b, g.blk (.hp i) = some b → i < σ.hp.length
  stIn : ∀ d k b, g.blk (.st d k) = some b → d ≤ σ.out.length
  lt : ∀ r b, g.blk r = some b → b < W.heap.size
  inj : ∀ r r' b, g.blk r = some b → g.blk r' = some b → r = r'
  kind : ∀ r b, isSl r = false → g.blk r = some b → g.own b = none ∨ g.own b = some (.obj r)

/-- roots that a frame of depth d doesn't make anew -/
def oldRoot (d : Nat) : Root → Prop
  | .hp _ => True
  | .st e _ => e < d
  | .sl _ => False

structure Ext (d : Nat) (g g' : Gh) (W W' : World) : Prop where
  size : W.heap.size ≤ W'.heap.size
  keep : ∀ b, b < W.heap.size → g.own b = none → g'.own b = none ∧ W'.heap[b]? = W.heap[b]?
  stab : ∀ b c, g.Ψ b = some c → g'.Ψ b = some c
  perm : ∀ b, g.Φ b = true → g'.Φ b = true
  fresh : ∀ b, g'.Φ b = true → g.Φ b = true ∨ g.own b ≠ none ∨ W.heap.size ≤ b
  blk : ∀ r b, oldRoot d r → g.blk r = some b → g'.blk r = some b
  newBlk : ∀ r b, g'.blk r = some b → g.blk r = some b ∨ W.heap.size ≤ b
  os : W'.os = W.os
  tape : W'.tape = W.tape
  output : W'.output = W.output

theorem Ext.refl (d : Nat) (g : Gh) (W : World) : Ext d g g W W := ⟨Nat.le_refl _, fun _ _ h => ⟨h, rfl⟩, fun _ _ h => h, fun _ h => h, fun _ h => .inl h, fun _ _ _ h => h, fun _ _ h => .inl h, rfl, rfl, rfl⟩
theorem Ext.trans {d : Nat} {g g' g'' : Gh} {W W' W'' : World} (h : Ext d g g' W W') (k : Ext d g' g'' W' W'') : Ext d g g'' W W'' where
  size := Nat.le_trans h.size k.size
  keep b hb ho := by
    obtain ⟨h1, h2⟩ := h.keep b hb ho
    obtain ⟨k1, k2⟩ := k.keep b (Nat.lt_of_lt_of_le hb h.size) h1
    exact ⟨k1, k2.trans h2⟩
  stab b c e := k.stab b c (h.stab b c e)
  perm b e := k.perm b (h.perm b e)
  fresh b e := by
    rcases k.fresh b e with e | e | e
    · exact h.fresh b e
    · by_cases hb : b < W.heap.size
      · by_cases ho : g.own b = none
        · exact absurd (h.keep b hb ho).1 e
        · exact .inr (.inl ho)
      · exact .inr (.inr (by omega))
    · exact .inr (.inr (Nat.le_trans h.size e))
  blk r b hr e := k.blk r b hr (h.blk r b hr e)
  newBlk r b e := by
    rcases k.newBlk r b e with e | e
    · exact h.newBlk r b e
    · exact .inr (Nat.le_trans h.size e)
  os := k.os.trans h.os
  tape := k.tape.trans h.tape
  output := k.output.trans h.output

/-! ### plain values hang on what is stable alone -/
structure GLe (g g' : Gh) : Prop where
  stab : ∀ b c, g.Ψ b = some c → g'.Ψ b = some c
  perm : ∀ b, g.Φ b = true → g'.Φ b = true
/-- the same of what is stable for ever -/
def GLp (g g' : Gh) : Prop := ∀ b c, g.Φ b = true → g.Ψ b = some c → g'.Φ b = true ∧ g'.Ψ b = some c

theorem Ext.gle {d : Nat} {g g' : Gh} {W W' : World} (h : Ext d g g' W W') : GLe g g' := ⟨h.stab, h.perm⟩
theorem GLe.glp {g g' : Gh} (h : GLe g g') : GLp g g' := fun b c h1 h2 => ⟨h.perm b h1, h.stab b c h2⟩

mutual
theorem PR.monoP {g g' : Gh} (h : GLp g g') : ∀ (v : PV) (x : Value), PR g v x → PR g' v x
  | .int k n, x, e => by simpa [PR] using e
  | .bool b, x, e => by simpa [PR] using e
  | .str l, x, e => by simpa [PR] using e
  | .nils, x, e => by simpa [PR] using e
  | .ro s es, x, e => by
    simp only [PR] at e ⊢
    obtain ⟨a, n, cap, rfl, h1, h2, h3, h4⟩ := e
    refine ⟨a, n, cap, rfl, h1, h2, h3, ?_⟩
    rcases h4 with h4 | ⟨h5, h6, c, h7, h8⟩
    · exact .inl h4
    · obtain ⟨k1, k2⟩ := h _ _ h5 h7; exact .inr ⟨k1, h6, c, k2, PRss.monoP h es _ h8⟩
theorem PRs.monoP {g g' : Gh} (h : GLp g g') : ∀ (v : List PV) (x : List Value), PRs g v x → PRs g' v x
  | [], [], e => trivial
  | v :: vs, x :: xs, e => by
    simp only [PRs] at e ⊢
    exact ⟨PR.monoP h v x e.1, PRs.monoP h vs xs e.2⟩
  | [], _ :: _, e => by simp [PRs] at e
  | _ :: _, [], e => by simp [PRs] at e
theorem PRss.monoP {g g' : Gh} (h : GLp g g') : ∀ (v : List (List PV)) (x : List Value), PRss g v x → PRss g' v x
  | [], _, e => by simp [PRss]
  | v :: vs, x, e => by
    simp only [PRss] at e ⊢
    exact ⟨PRs.monoP h v _ e.1, PRss.monoP h vs _ e.2⟩
end
theorem PR.mono {g g' : Gh} (h : GLe g g') (v : PV) (x : Value) (e : PR g v x) : PR g' v x := PR.monoP h.glp v x e
theorem PRs.mono {g g' : Gh} (h : GLe g g') (v : List PV) (x : List Value) (e : PRs g v x) : PRs g' v x := PRs.monoP h.glp v x e
theorem PRss.mono {g g' : Gh} (h : GLe g g') (v : List (List PV)) (x : List Value) (e : PRss g v x) : PRss g' v x := PRss.monoP h.glp v x e

theorem PRs.length {g : Gh} : ∀ {v : List PV} {x : List Value}, PRs g v x → x.length = v.length
  | [], [], _ => rfl
  | v :: vs, x :: xs, e => by simp only [PRs] at e; simp [PRs.length e.2]
  | [], _ :: _, e => by simp [PRs] at e
  | _ :: _, [], e => by simp [PRs] at e

theorem PRs.append {g : Gh} : ∀ {v v' : List PV} {x x' : List Value}, PRs g v x → PRs g v' x' → PRs g (v ++ v') (x ++ x')
  | [], _, [], _, _, h => by simpa using h
  | v :: vs, _, x :: xs, _, e, h => by simp only [PRs, List.cons_append] at e ⊢; exact ⟨e.1, PRs.append e.2 h⟩
  | [], _, _ :: _, _, e, _ => by simp [PRs] at e
  | _ :: _, _, [], _, e, _ => by simp [PRs] at e

theorem PRs.drop {g : Gh} : ∀ {v : List PV} {x : List Value} (n : Nat), PRs g v x → PRs g (v.drop n) (x.drop n)
  | _, _, 0, h => by simpa using h
  | [], [], n + 1, _ => by simp [PRs]
  | v :: vs, x :: xs, n + 1, e => by simp only [PRs, List.drop_succ_cons] at e ⊢; exact PRs.drop n e.2
  | [], _ :: _, _ + 1, e => by simp [PRs] at e
  | _ :: _, [], _ + 1, e => by simp [PRs] at e
theorem PRs.take {g : Gh} : ∀ {v : List PV} {x : List Value} (n : Nat), PRs g v x → PRs g (v.take n) (x.take n)
  | _, _, 0, h => by simp [PRs]
  | [], [], n + 1, _ => by simp [PRs]
  | v :: vs, x :: xs, n + 1, e => by simp only [PRs, List.take_succ_cons] at e ⊢; exact ⟨e.1, PRs.take n e.2⟩
  | [], _ :: _, _ + 1, e => by simp [PRs] at e
  | _ :: _, [], _ + 1, e => by simp [PRs] at e
theorem PRs.get {g : Gh} : ∀ {v : List PV} {x : List Value} (i : Nat) {p : PV}, PRs g v x → v[i]? = some p → ∃ y, x[i]? = some y ∧ PR g p y
  | v :: vs, x :: xs, 0, p, e, h => by simp at h; subst h; simp only [PRs] at e; exact ⟨x, by simp, e.1⟩
  | v :: vs, x :: xs, i + 1, p, e, h => by simp only [PRs] at e; simp at h; simpa using PRs.get i e.2 h
  | [], _, _, _, _, h => by simp at h
  | _ :: _, [], _, _, e, _ => by simp [PRs] at e

theorem PRss.get {g : Gh} {s : Nat} : ∀ {es : List (List PV)} {l : List Value} (i : Nat) {e : List PV}, lensAre s es → PRss g es l → es[i]? = some e →
    PRs g e ((l.drop (i * s)).take s) ∧ e.length = s
  | e :: r, l, 0, e', hl, h, he => by
    simp at he; subst he
    simp only [PRss, lensAre, lenL_eq] at h hl
    rw [hl.1] at h
    exact ⟨by simpa using h.1, hl.1⟩
  | e :: r, l, i + 1, e', hl, h, he => by
    simp only [PRss, lensAre, lenL_eq] at h hl
    rw [hl.1] at h
    have := PRss.get (l := l.drop s) i hl.2 h.2 (by simpa using he)
    rw [List.drop_drop] at this
    rw [show (i + 1) * s = s + i * s by rw [Nat.succ_mul, Nat.add_comm]]
    exact this
  | [], _, _, _, _, _, he => by simp at he

theorem PRss.length {g : Gh} {s : Nat} : ∀ {es : List (List PV)} {l : List Value}, lensAre s es → PRss g es l → es.length * s ≤ l.length ∨ s = 0
  | [], _, _, _ => by simp
  | e :: r, l, hl, h => by
    simp only [PRss, lensAre, lenL_eq] at h hl
    rw [hl.1] at h
    have h1 := PRs.length h.1
    rw [hl.1, List.length_take] at h1
    rcases PRss.length hl.2 h.2 with h2 | h2
    · left
      rw [List.length_drop] at h2
      simp only [List.length_cons, Nat.succ_mul]
      omega
    · exact .inr h2

theorem PRss.drop {g : Gh} {s : Nat} : ∀ {es : List (List PV)} {l : List Value} (i : Nat), lensAre s es → PRss g es l → PRss g (es.drop i) (l.drop (i * s))
  | _, _, 0, _, h => by simpa using h
  | [], _, i + 1, _, _ => by simp [PRss]
  | e :: r, l, i + 1, hl, h => by
    simp only [PRss, lensAre, lenL_eq, List.drop_succ_cons] at h hl ⊢
    rw [hl.1] at h
    have := PRss.drop (l := l.drop s) i hl.2 h.2
    rw [List.drop_drop] at this
    rwa [show (i + 1) * s = s + i * s by rw [Nat.succ_mul, Nat.add_comm]]
theorem PRss.take {g : Gh} : ∀ {es : List (List PV)} {l : List Value} (i : Nat), PRss g es l → PRss g (es.take i) l
  | _, _, 0, _ => by simp [PRss]
  | [], _, i + 1, _ => by simp [PRss]
  | e :: r, l, i + 1, h => by simp only [PRss, List.take_succ_cons] at h ⊢; exact ⟨h.1, PRss.take i h.2⟩
theorem lensAre.drop {s : Nat} {es : List (List PV)} (i : Nat) (h : lensAre s es) : lensAre s (es.drop i) := by
  rw [lensAre_iff] at *; exact fun e he => h e (List.mem_of_mem_drop he)
theorem lensAre.take {s : Nat} {es : List (List PV)} (i : Nat) (h : lensAre s es) : lensAre s (es.take i) := by
  rw [lensAre_iff] at *; exact fun e he => h e (List.mem_of_mem_take he)
theorem lensAre.append {s : Nat} {es fs : List (List PV)} (h : lensAre s es) (k : lensAre s fs) : lensAre s (es ++ fs) := by
  rw [lensAre_iff] at *; intro e he; exact (List.mem_append.1 he).elim (h e) (k e)

/-- only the list's beginning counts -/
theorem PRss.upTo {g : Gh} {s : Nat} : ∀ {es : List (List PV)} {l l' : List Value}, lensAre s es → l.take (es.length * s) = l'.take (es.length * s) → PRss g es l → PRss g es l'
  | [], _, _, _, _, _ => by simp [PRss]
  | e :: r, l, l', hl, heq, h => by
    simp only [PRss, lensAre, lenL_eq, List.length_cons] at h hl ⊢
    rw [hl.1] at h ⊢
    have hs : (r.length + 1) * s = s + r.length * s := by rw [Nat.succ_mul, Nat.add_comm]
    rw [List.length_cons, hs] at heq
    have e1 : l.take s = l'.take s := by
      have := congrArg (List.take s) heq
      rw [List.take_take, List.take_take] at this
      rwa [Nat.min_eq_left (by omega)] at this
    have e2 : (l.drop s).take (r.length * s) = (l'.drop s).take (r.length * s) := by
      have := congrArg (List.drop s) heq
      rw [List.drop_take, List.drop_take] at this
      simpa using this
    exact ⟨e1 ▸ h.1, PRss.upTo hl.2 e2 h.2⟩

theorem PRss.append {g : Gh} {s : Nat} : ∀ {es fs : List (List PV)} {l m : List Value}, lensAre s es → l.length = es.length * s → PRss g es l → PRss g fs m → PRss g (es ++ fs) (l ++ m)
  | [], fs, l, m, _, hn, _, k => by simp at hn; subst hn; simpa using k
  | e :: r, fs, l, m, hl, hn, h, k => by
    simp only [PRss, lensAre, lenL_eq, List.length_cons, List.cons_append] at h hl hn ⊢
    rw [hl.1] at h ⊢
    rw [Nat.succ_mul] at hn
    rw [List.take_append_of_le_length (by omega), List.drop_append_of_le_length (by omega)]
    exact ⟨h.1, PRss.append hl.2 (by rw [List.length_drop]; omega) h.2 k⟩

end Go.VM

/-
V: the operations that only compute: what they come to in the model is what the machine says.
-/
namespace Go.VM
open Go
set_option linter.unusedVariables false
set_option linter.unusedSimpArgs false

theorem SR.p_iff {cx : Cx} {o v x} : SR cx o (.p v) x ↔ PR cx.g v x := by simp [SR]

mutual
/-- a value that owns nothing: whose it is plays no part -/
theorem SR.anyO {cx : Cx} {o o' : List Nat → Option Owner} : ∀ {v : SV} {x : Value}, owns v = false → SR cx o v x → SR cx o' v x
  | .p _, _, _, h => by simpa [SR] using h
  | .pagg _, _, _, h => by simpa [SR] using h
  | .own _ _, _, e, _ => by simp [owns] at e
  | .lent _ _, _, _, h => by simpa [SR] using h
  | .al _ _ _ _, _, _, h => by simpa [SR] using h
  | .ptr _, _, _, h => by simpa [SR] using h
  | .cptr _, _, _, h => by simpa [SR] using h
  | .nilp, _, _, h => by simpa [SR] using h
  | .fn _ _, _, _, h => by simpa [SR] using h
  | .nilf, _, _, h => by simpa [SR] using h
  | .undef, _, _, h => by simp [SR]
  | .agg cs, _, e, h => by
    simp only [SR, owns] at h e ⊢
    obtain ⟨a, h1, h2⟩ := h
    exact ⟨a, h1, SRs.anyO e h2⟩
  | .tup cs, _, e, h => by
    simp only [SR, owns] at h e ⊢
    obtain ⟨a, h1, h2⟩ := h
    exact ⟨a, h1, SRs.anyO e h2⟩
theorem SRs.anyO {cx : Cx} {o o' : List Nat → Option Owner} : ∀ {i : Nat} {v : List SV} {x : List Value}, ownsL v = false → SRs cx o i v x → SRs cx o' i v x
  | _, [], [], _, _ => by simp [SRs]
  | i, v :: vs, x :: xs, e, h => by
    simp only [SRs, ownsL, Bool.or_eq_false_iff] at h e ⊢
    exact ⟨SR.anyO e.1 h.1, SRs.anyO e.2 h.2⟩
  | _, [], _ :: _, _, h => by simp [SRs] at h
  | _, _ :: _, [], _, h => by simp [SRs] at h
end

theorem vOf_ok {cx : Cx} {o} : ∀ {v : Value} {s : SV}, vOf v = some s → SR cx o s v
  | .int _ _, _, h => by simp [vOf] at h; subst h; simp [SR, PR]
  | .bool _, _, h => by simp [vOf] at h; subst h; simp [SR, PR]
  | .string b, _, h => by simp [vOf] at h; subst h; exact ⟨b, rfl, rfl⟩
  | .pointer none, _, h => by simp [vOf] at h; subst h; simp [SR]
  | .pointer (some _), _, h => by simp [vOf] at h
  | .slice none 0 0, _, h => by simp [vOf] at h; subst h; simp [SR, PR]
  | .slice none 0 (_ + 1), _, h => by simp [vOf] at h
  | .slice none (_ + 1) _, _, h => by simp [vOf] at h
  | .slice (some _) _ _, _, h => by simp [vOf] at h
  | .nilFunc, _, h => by simp [vOf] at h; subst h; simp [SR]
  | .tuple _, _, h => by simp [vOf] at h; subst h; simp [SR]
  | .float _ _, _, h => by simp [vOf] at h
  | .complex _ _ _, _, h => by simp [vOf] at h
  | .map _, _, h => by simp [vOf] at h
  | .chan _, _, h => by simp [vOf] at h
  | .func _ _ _, _, h => by simp [vOf] at h
  | .iface _ _, _, h => by simp [vOf] at h
  | .nilIface, _, h => by simp [vOf] at h
  | .agg _, _, h => by simp [vOf] at h

theorem vOf_own {v : Value} {s : SV} (h : vOf v = some s) : owns s = false ∧ isOwn s = false := by
  unfold vOf at h
  split at h <;> simp at h <;> subst h <;> simp [owns, isOwn]

def resO : List Nat → Option Owner := fun π => some (.res π)

/-- an operand's value -/
theorem rd_ok {ba : Ba} {σ : St} {g : Gh} {a : Act} {W : World} (hr : Rel ba σ g a.tmps W) {y : Operand} {x : Opd} (hx : opdOf y = some x) :
    ∃ o, SR ⟨g, W, a.tmps, σ.env⟩ o (rd σ x) (a.eval y) := by
  cases y with
  | tmp k =>
    simp only [opdOf, Option.some.injEq] at hx; subst hx
    refine ⟨slotO k, ?_⟩
    have h := hr.env k
    simp only [rd, Act.eval]
    split
    · next s es he =>
      rw [he] at h
      simp only [SR, OwnR] at h
      obtain ⟨b, n, cap, hx, h1, h2, h3, h4, h5⟩ := h
      simp only [SR, AlR]
      refine ⟨trivial, b, n, cap, b, cap, ?_, h3, by omega, h2, by rw [hx, h1], by omega, h3, ?_⟩
      · simp only [hdr, he, isOwn, and_self, if_true]
        rw [Array.getD_eq_getD_getElem?] at hx
        cases ht : a.tmps[k]? with
        | none => rw [ht] at hx; simp [undef] at hx
        | some z => rw [ht] at hx; simp at hx; rw [hx]
      · by_cases hc : cap = 0
        · exact .inl hc
        · exact .inr ⟨rfl, by simp, by omega⟩
    · exact h
  | const v =>
    simp only [opdOf, Option.map_eq_some_iff] at hx
    obtain ⟨s, hs, rfl⟩ := hx
    exact ⟨slotO 0, by simpa [rd, Act.eval] using vOf_ok hs⟩
  | func f =>
    simp only [opdOf, Option.some.injEq] at hx; subst hx
    exact ⟨slotO 0, by simp [rd, Act.eval, SR, SRs]⟩
  | global g => simp [opdOf] at hx

theorem rd_ok' {ba : Ba} {σ : St} {g : Gh} {a : Act} {W : World} (hr : Rel ba σ g a.tmps W) {y : Operand} {x : Opd} (hx : opdOf y = some x) (ho : owns (rd σ x) = false)
    (o : List Nat → Option Owner) : SR ⟨g, W, a.tmps, σ.env⟩ o (rd σ x) (a.eval y) :=
  let ⟨_, h⟩ := rd_ok hr hx
  SR.anyO ho h

theorem PR_int (g : Gh) (k : IntKind) (n : Int) : PR g (.int k n) (.int k n) := by simp [PR]
theorem PR_bool (g : Gh) (b : Bool) : PR g (.bool b) (.bool b) := by simp [PR]
theorem PR_str (g : Gh) (l : List UInt8) (s : ByteArray) (h : s.data.toList = l) : PR g (.str l) (.string s) := by simp [PR, h]

section pure
variable {P : Program} {W : World} {cx : Cx} {o o1 o2 : List Nat → Option Owner}

theorem intOp_ok {op : BinOp} {k : IntKind} {a b : Int} {v : PV} (h : intOp op k a b = some v) (hs : isShift op = false) (t : TypeId) :
    ∃ V, (binOp op t (.int k a) (.int k b)).run P W = .ok V W ∧ PR cx.g v V := by
  cases op <;> simp only [intOp, Option.some.injEq, reduceCtorEq, isShift] at h hs
  case add | sub | mul => subst h; refine ⟨_, ?_, PR_int _ _ _⟩; simp [binOp, Op.intArith]
  case quo | rem =>
    split at h
    · simp at h
    · simp only [Option.some.injEq] at h; subst h; rename_i hb; refine ⟨_, ?_, PR_int _ _ _⟩; simp [binOp, Op.intDiv, hb]
  case and | or | xor | andNot => subst h; refine ⟨_, ?_, PR_int _ _ _⟩; simp [binOp, Op.intBits]
  case eql | neq | lss | leq | gtr | geq => subst h; refine ⟨_, ?_, PR_bool _ _⟩; simp [binOp, Op.intCmp]
  all_goals simp at hs

theorem shiftOp_ok {op : BinOp} {k j : IntKind} {a b : Int} {v : PV} (h : shiftOp op k a b = some v) (t : TypeId) :
    ∃ V, (binOp op t (.int k a) (.int j b)).run P W = .ok V W ∧ PR cx.g v V := by
  unfold shiftOp at h
  split at h
  · simp at h
  · rename_i hb
    cases op <;> simp only [Option.some.injEq, reduceCtorEq] at h
    case shl | shr => subst h; refine ⟨_, ?_, PR_int _ _ _⟩; simp [binOp, Op.shift, hb]

theorem strOp_ok {op : BinOp} {a b : List UInt8} {v : PV} {x y : ByteArray} (hx : x.data.toList = a) (hy : y.data.toList = b) (h : strOp op a b = some v) (t : TypeId) :
    ∃ V, (binOp op t (.string x) (.string y)).run P W = .ok V W ∧ PR cx.g v V := by
  have ex : x.toList = a := by rw [ByteArray.toList_eq, hx]
  have ey : y.toList = b := by rw [ByteArray.toList_eq, hy]
  have sx : x.size = a.length := by rw [← hx]; simp
  have sy : y.size = b.length := by rw [← hy]; simp
  cases op <;> simp only [strOp, Option.some.injEq, reduceCtorEq] at h
  case add =>
    split at h
    · rename_i hl
      simp only [Option.some.injEq] at h; subst h
      have hl' : ¬ (((x.size + y.size : Nat) : Int) > IntKind.i64.max) := by rw [sx, sy]; simp [IntKind.max, IntKind.signed, IntKind.bits]; omega
      refine ⟨_, ?_, PR_str _ _ (x ++ y) (by simp [hx, hy])⟩; simp only [binOp, Op.stringOp]; rw [if_neg hl']; rfl
    · simp at h
  all_goals (subst h; refine ⟨_, ?_, PR_bool _ _⟩; simp [binOp, Op.stringOp, ex, ey])

theorem guard_int (op : BinOp) (t : TypeId) (x y : Operand) (k j : IntKind) (a b : Int) : (eqGuard op t x y (.int k a) (.int j b)).run P W = .ok () W := by
  cases op <;> simp [eqGuard]
theorem guard_str (op : BinOp) (t : TypeId) (x y : Operand) (a b : ByteArray) : (eqGuard op t x y (.string a) (.string b)).run P W = .ok () W := by
  cases op <;> simp [eqGuard]
theorem guard_bool (op : BinOp) (t : TypeId) (x y : Operand) (a b : Bool) : (eqGuard op t x y (.bool a) (.bool b)).run P W = .ok () W := by
  cases op <;> simp [eqGuard]
theorem guard_ptr (op : BinOp) (t : TypeId) (x y : Operand) (a b : Option Addr) : (eqGuard op t x y (.pointer a) (.pointer b)).run P W = .ok () W := by
  cases op <;> simp [eqGuard]
theorem guard_slice (op : BinOp) (t : TypeId) (x y : Operand) (a b : Option Addr) (n m c d : Nat) : (eqGuard op t x y (.slice a n c) (.slice b m d)).run P W = .ok () W := by
  cases op <;> simp [eqGuard]
theorem guard_func1 (op : BinOp) (t : TypeId) (x y : Operand) (f : Fn) (a b : Array Value) : (eqGuard op t x y (.func f a b) .nilFunc).run P W = .ok () W := by
  cases op <;> simp [eqGuard]
theorem guard_func2 (op : BinOp) (t : TypeId) (x y : Operand) (f : Fn) (a b : Array Value) : (eqGuard op t x y .nilFunc (.func f a b)).run P W = .ok () W := by
  cases op <;> simp [eqGuard]
theorem guard_func3 (op : BinOp) (t : TypeId) (x y : Operand) : (eqGuard op t x y .nilFunc .nilFunc).run P W = .ok () W := by
  cases op <;> simp [eqGuard]

end pure
end Go.VM

namespace Go.VM
open Go
section
variable {P : Program} {W : World} {cx : Cx}

theorem run_sizeOf {t : TypeId} {n : Nat} (h : szOf P t = some n) : (sizeOf t).run P W = .ok n W := by
  simp only [szOf, Option.map_eq_some_iff] at h
  obtain ⟨i, h1, h2⟩ := h
  simp [sizeOf, typeInfo, h1, h2]
theorem run_typeInfo {t : TypeId} {i : TypeInfo} (h : P.info? t = some i) : (typeInfo t).run P W = .ok i W := by
  simp [typeInfo, h]
theorem run_isAgg {t : TypeId} {b : Bool} (h : aggOf P t = some b) : (isAgg t).run P W = .ok b W := by
  simp only [aggOf, Option.map_eq_some_iff] at h
  obtain ⟨d, h1, h2⟩ := h
  simp only [isAgg, Sem.run_bind, run_underlying h1, Result.andThen_ok]
  cases d <;> simp_all

/-- a value of a type, out of its cells -/
def asV (agg : Bool) (xs : List Value) : Value := if agg then .agg xs.toArray else xs.headD undef

theorem run_part {t : TypeId} {b : Bool} {n off : Nat} {cs : Array Value} (ha : aggOf P t = some b) (hn : szOf P t = some n) (h1 : b = false → n = 1) (hle : off + n ≤ cs.size) :
    (part t cs off).run P W = .ok (asV b ((cs.toList.drop off).take n)) W := by
  unfold part
  simp only [Sem.run_bind, run_isAgg ha, Result.andThen_ok]
  cases b with
  | true =>
    simp only [if_true, Sem.run_bind, run_sizeOf hn, Result.andThen_ok, Sem.run_pure, asV]
    congr 2
    rw [← Array.toArray_toList (xs := cs.extract off (off + n))]
    simp only [Array.toList_extract, List.extract_eq_take_drop]
    congr 3
    omega
  | false =>
    have := h1 rfl
    subst this
    have hlt : off < cs.size := by omega
    simp [asV, hlt, List.take_one, List.head?_drop]
end
end Go.VM

namespace Go.VM
open Go
theorem eqC_append : ∀ (ks js : List Ck) (a b c d : List PV), a.length = ks.length → c.length = ks.length →
    eqC (ks ++ js) (a ++ b) (c ++ d) = (eqC ks a c).bind fun r => if r then eqC js b d else some false
  | [], js, [], b, [], d, _, _ => by simp [eqC]
  | k :: ks, js, x :: a, b, y :: c, d, h, h' => by
    simp only [List.cons_append, eqC]
    cases eq1 k x y with
    | none => simp
    | some r =>
      cases r
      · simp
      · simpa using eqC_append ks js a b c d (by simpa using h) (by simpa using h')
  | [], _, _ :: _, _, _, _, h, _ => by simp at h
  | [], _, [], _, _ :: _, _, _, h => by simp at h
  | _ :: _, _, [], _, _, _, h, _ => by simp at h
  | _ :: _, _, _ :: _, _, [], _, _, h => by simp at h

section
variable {P : Program} {W : World} {g : Gh}

def EqAt (P : Program) (W : World) (g : Gh) (d : Nat) (t : TypeId) (b : Bool) (l : List Ck) : Prop :=
  ∀ (cs ds : List PV) (xs ys : List Value) r, PRs g cs xs → PRs g ds ys → cs.length = l.length → ds.length = l.length → eqC l cs ds = some r →
    (Op.equalIn d t (asV b xs) (asV b ys)).run P W = .ok r W

theorem eqf_ok {rec : TypeId → Option (List Ck)} {d : Nat}
    (hrec : ∀ t l, rec t = some l → ∃ b, aggOf P t = some b ∧ (b = false → l.length = 1) ∧ EqAt P W g d t b l) :
    ∀ (fs : List Field) (k : Nat) (l : List Ck) (cs ds : List PV) (xs ys : Array Value) r, eqf P rec fs k = some l → PRs g cs xs.toList → PRs g ds ys.toList →
      cs.length = k + l.length → ds.length = k + l.length → eqC l (cs.drop k) (ds.drop k) = some r → (Op.eqFields d xs ys fs).run P W = .ok r W
  | [], k, l, cs, ds, xs, ys, r, h, hx, hy, hc, hd, he => by
    simp [eqf] at h
    subst h
    rw [List.drop_of_length_le (by simpa using Nat.le_of_eq hc), List.drop_of_length_le (by simpa using Nat.le_of_eq hd)] at he
    simp [eqC] at he
    subst he
    simp [Op.eqFields]
  | f :: fs, k, l, cs, ds, xs, ys, r, h, hx, hy, hc, hd, he => by
    simp only [eqf] at h
    split at h
    case isFalse => simp at h
    rename_i hf
    simp only [Bool.and_eq_true, bne_iff_ne, ne_eq, beq_iff_eq] at hf
    simp only [Option.bind_eq_some_iff] at h
    obtain ⟨l1, h1, h2⟩ := h
    split at h2
    case isFalse => simp at h2
    rename_i hs
    simp only [Option.map_eq_some_iff] at h2
    obtain ⟨l2, h2, rfl⟩ := h2
    simp only [List.length_append] at hc hd
    obtain ⟨b, hb, hb1, hrun⟩ := hrec _ _ h1
    have lx := PRs.length hx
    have ly := PRs.length hy
    simp only [Array.length_toList] at lx ly
    have px := run_part (P := P) (W := W) (cs := xs) (off := k) hb hs hb1 (by omega)
    have py := run_part (P := P) (W := W) (cs := ys) (off := k) hb hs hb1 (by omega)
    have ec : cs.drop k = (cs.drop k).take l1.length ++ cs.drop (k + l1.length) := by rw [← List.drop_drop, List.take_append_drop]
    have ed : ds.drop k = (ds.drop k).take l1.length ++ ds.drop (k + l1.length) := by rw [← List.drop_drop, List.take_append_drop]
    rw [ec, ed, eqC_append _ _ _ _ _ _ (by simp; omega) (by simp; omega)] at he
    simp only [Option.bind_eq_some_iff] at he
    obtain ⟨r1, hr1, hr2⟩ := he
    have e1 := hrun _ _ _ _ r1 (PRs.take l1.length (PRs.drop k hx)) (PRs.take l1.length (PRs.drop k hy)) (by simp; omega) (by simp; omega) hr1
    simp only [Op.eqFields, ne_eq, hf.1, not_false_eq_true, if_true, Sem.run_bind, hf.2, px, py, e1, Result.andThen_ok]
    cases r1 with
    | false => simp at hr2; subst hr2; simp
    | true =>
      simp only [Bool.not_true, Bool.false_eq_true, if_false, if_true] at hr2 ⊢
      exact eqf_ok hrec fs (k + l1.length) l2 cs ds xs ys r h2 hx hy (by omega) (by omega) hr2

theorem eqk_ok : ∀ (n : Nat) (t : TypeId) (l : List Ck), eqk P n t = some l → ∃ b, aggOf P t = some b ∧ (b = false → l.length = 1) ∧ ∀ d, EqAt P W g (d + n) t b l
  | 0, t, l, h => by simp [eqk] at h
  | n + 1, t, l, h => by
    simp only [eqk] at h
    have scalar : ∀ {k : Ck} (cs ds : List PV) (xs ys : List Value) r, PRs g cs xs → PRs g ds ys → cs.length = 1 → ds.length = 1 → eqC [k] cs ds = some r →
        ∃ p q x y, xs = [x] ∧ ys = [y] ∧ PR g p x ∧ PR g q y ∧ eq1 k p q = some r := by
      intro k cs ds xs ys r hx hy hc hd he
      have lx := PRs.length hx
      have ly := PRs.length hy
      match cs, ds, xs, ys, hc, hd with
      | [p], [q], [x], [y], _, _ =>
        simp only [PRs, and_true] at hx hy
        simp only [eqC, Option.bind_eq_some_iff] at he
        obtain ⟨r1, h1, h2⟩ := he
        exact ⟨p, q, x, y, rfl, rfl, hx, hy, by cases r1 <;> simp_all⟩
    split at h
    · next k hu =>
      simp only [Option.some.injEq] at h; subst h
      refine ⟨false, by simp [aggOf, hu], fun _ => rfl, fun d cs ds xs ys r hx hy hc hd he => ?_⟩
      obtain ⟨p, q, x, y, rfl, rfl, hp, hq, h1⟩ := scalar cs ds xs ys r hx hy hc hd he
      unfold eq1 at h1
      split at h1 <;> simp_all [PR, asV]
      rename_i k1 a1 k2 b1
      rw [show d + (n + 1) = (d + n) + 1 from rfl, run_equalIn_int W (d + n) t k2 k a1 b1 hu, h1.2]
    · next hu =>
      simp only [Option.some.injEq] at h; subst h
      refine ⟨false, by simp [aggOf, hu], fun _ => rfl, fun d cs ds xs ys r hx hy hc hd he => ?_⟩
      obtain ⟨p, q, x, y, rfl, rfl, hp, hq, h1⟩ := scalar cs ds xs ys r hx hy hc hd he
      unfold eq1 at h1
      split at h1 <;> simp_all [PR, asV]
      rename_i a1 b1
      rw [show d + (n + 1) = (d + n) + 1 from rfl, run_equalIn_bool' W (d + n) t a1 b1 hu, h1]
    · next hu =>
      simp only [Option.some.injEq] at h; subst h
      refine ⟨false, by simp [aggOf, hu], fun _ => rfl, fun d cs ds xs ys r hx hy hc hd he => ?_⟩
      obtain ⟨p, q, x, y, rfl, rfl, hp, hq, h1⟩ := scalar cs ds xs ys r hx hy hc hd he
      unfold eq1 at h1
      split at h1 <;> simp_all [PR, asV]
      rename_i a1 b1
      obtain ⟨s, rfl, hs⟩ := hp
      obtain ⟨s', rfl, hs'⟩ := hq
      rw [show d + (n + 1) = (d + n) + 1 from rfl]
      rw [run_equalIn_string W (d + n) t s s' hu, ByteArray.toList_eq, ByteArray.toList_eq, hs, hs', h1]
    · next fs hu =>
      split at h
      case isTrue => simp at h
      rename_i hst
      simp only [Bool.or_eq_true, not_or, Bool.not_eq_true] at hst
      refine ⟨true, by simp [aggOf, hu], by simp, fun d cs ds xs ys r hx hy hc hd he => ?_⟩
      simp only [asV, if_true]
      have hfo : P.fieldsOf t = fs := by simp [Program.fieldsOf, hu]
      rw [show d + (n + 1) = (d + n) + 1 from rfl, run_equalIn_struct W (d + n) t _ _ (by rw [hfo]; exact hu) hst.1, hfo]
      refine eqf_ok (rec := eqk P n) (d := d + n) (fun t m ht => ?_) fs.toList 0 l cs ds _ _ r h (by simpa using hx) (by simpa using hy) (by omega) (by omega) (by simpa using he)
      obtain ⟨b, hb1, hb2, hb3⟩ := eqk_ok n t m ht
      exact ⟨b, hb1, hb2, hb3 d⟩
    · simp at h
end
end Go.VM

namespace Go.VM
open Go
section
variable {P : Program} {W : World} {cx : Cx} {o o1 o2 : List Nat → Option Owner}

theorem eqOp_ok {op : BinOp} {b : Bool} {v : SV} (h : eqOp op b = some v) {t : TypeId} {xo yo : Operand} {X Y : Value}
    (hg : (eqGuard op t xo yo X Y).run P W = .ok () W)
    (h1 : op = .eql → (binOp op t X Y).run P W = .ok (.bool b) W) (h2 : op = .neq → (binOp op t X Y).run P W = .ok (.bool (!b)) W) :
    ∃ V, (do eqGuard op t xo yo X Y; binOp op t X Y : Sem Value).run P W = .ok V W ∧ SR cx o v V := by
  cases op <;> simp only [eqOp, Option.some.injEq, reduceCtorEq] at h
  · subst h; exact ⟨.bool b, by simp [hg, h1], by simp [SR, PR]⟩
  · subst h; exact ⟨.bool (!b), by simp [hg, h2], by simp [SR, PR]⟩

theorem eqOp_kind {op : BinOp} {b : Bool} {v : SV} (h : eqOp op b = some v) : op = .eql ∨ op = .neq := by
  cases op <;> simp [eqOp] at h <;> simp

theorem ekOf_ptr {t : TypeId} (h : ekOf P t = .ptr) : ∃ e, P.underlying t = some (.pointer e) := by
  unfold ekOf at h; split at h <;> simp_all
  split at h <;> simp at h
theorem ekOf_slice {t : TypeId} (h : ekOf P t = .slice) : ∃ e, P.underlying t = some (.slice e) := by
  unfold ekOf at h; split at h <;> simp_all
  split at h <;> simp at h
theorem ekOf_func {t : TypeId} (h : ekOf P t = .func) : ∃ a b c, P.underlying t = some (.func a b c) := by
  unfold ekOf at h; split at h <;> simp_all
  split at h <;> simp at h
theorem ekOf_bool {t : TypeId} (h : ekOf P t = .bool) : P.underlying t = some .bool := by
  unfold ekOf at h; split at h <;> simp_all
  split at h <;> simp at h
theorem ekOf_struct {t : TypeId} {l : List Ck} (h : ekOf P t = .struct l) : eqk P 8 t = some l ∧ ∃ fs, P.underlying t = some (.struct fs) := by
  unfold ekOf at h; split at h <;> simp_all
  split at h <;> simp_all

theorem eqk_guard {n : Nat} {t : TypeId} {l : List Ck} {fs : Array Field} (h : eqk P (n + 1) t = some l) (hu : P.underlying t = some (.struct fs)) : P.eqGuardType P.depth t = false := by
  simp only [eqk, hu] at h
  split at h
  · simp at h
  · rename_i hst; simp only [Bool.or_eq_true, not_or, Bool.not_eq_true] at hst; exact hst.2

theorem SR_ptr {x : SV} {X : Value} (h : SR cx o x X) (hx : x = .nilp ∨ (∃ pl, x = .ptr pl) ∨ ∃ c, x = .cptr c) : ∃ a, X = .pointer a ∧ (a = none ↔ x = .nilp) := by
  rcases hx with rfl | ⟨pl, rfl⟩ | ⟨c, rfl⟩
  · simp only [SR] at h; exact ⟨none, h, by simp⟩
  · simp only [SR, PtrR] at h
    split at h
    · obtain ⟨_, b, _, h⟩ := h; exact ⟨_, h, by simp⟩
    · obtain ⟨a, m, cap, _, _, h⟩ := h; exact ⟨_, h, by simp⟩
  · simp only [SR, CptrR] at h
    obtain ⟨b, off, c', h, _⟩ := h; exact ⟨_, h, by simp⟩

theorem SR_slice {x : SV} {X : Value} (h : SR cx o x X) (hx : x = .p .nils ∨ isSlice x = true) : ∃ a n c, X = .slice a n c ∧ (a = none ↔ x = .p .nils) := by
  rcases hx with rfl | hx
  · simp only [SR, PR] at h; exact ⟨_, _, _, h, by simp⟩
  · unfold isSlice at hx
    split at hx
    · simp only [SR, PR] at h; obtain ⟨a, n, c, h, _⟩ := h; exact ⟨_, _, _, h, by simp⟩
    · simp only [SR, LentR] at h; obtain ⟨a, n, c, h, _⟩ := h; exact ⟨_, _, _, h, by simp⟩
    · simp only [SR, AlR] at h; obtain ⟨_, a, m, cap, b, cap', _, _, _, _, h, _⟩ := h; exact ⟨_, _, _, h, by simp⟩
    · simp at hx

theorem ptr_eq {op : BinOp} {b : Bool} {v : SV} {x y : SV} {X Y : Value} {t : TypeId} {xo yo : Operand} (h : eqOp op b = some v) (ht : ekOf P t = .ptr) (hx : SR cx o1 x X) (hy : SR cx o2 y Y)
    (kx : x = .nilp ∨ (∃ pl, x = .ptr pl) ∨ ∃ c, x = .cptr c) (ky : y = .nilp ∨ (∃ pl, y = .ptr pl) ∨ ∃ c, y = .cptr c) (hb : (b = true ∧ x = .nilp ∧ y = .nilp) ∨ (b = false ∧ x ≠ .nilp ∧ y = .nilp) ∨ (b = false ∧ x = .nilp ∧ y ≠ .nilp)) :
    ∃ V, (do eqGuard op t xo yo X Y; binOp op t X Y : Sem Value).run P W = .ok V W ∧ SR cx o v V := by
  obtain ⟨e, hu⟩ := ekOf_ptr ht
  obtain ⟨a, rfl, ha⟩ := SR_ptr hx kx
  obtain ⟨c, rfl, hc⟩ := SR_ptr hy ky
  have key : (Op.equalIn 10000 t (.pointer a) (.pointer c)).run P W = .ok b W := by
    suffices H : ∀ d, (Op.equalIn (d + 1) t (.pointer a) (.pointer c)).run P W = .ok b W from H 9999
    intro d
    rcases hb with ⟨rfl, h1, h2⟩ | ⟨rfl, h1, h2⟩ | ⟨rfl, h1, h2⟩
    · rw [ha.2 h1, hc.2 h2]; simp [Op.equalIn, run_underlying hu]
    · rw [hc.2 h2]
      cases a with
      | none => exact absurd (ha.1 rfl) h1
      | some a => simp [Op.equalIn, run_underlying hu]
    · rw [ha.2 h1]
      cases c with
      | none => exact absurd (hc.1 rfl) h2
      | some c => simp [Op.equalIn, run_underlying hu]
  refine eqOp_ok h (guard_ptr op t xo yo a c) ?_ ?_
  · rintro rfl; simp only [binOp]; simp [Op.equal, Op.maxDepth, key]
  · rintro rfl; simp only [binOp]; simp [Op.equal, Op.maxDepth, key]

theorem slice_eq {op : BinOp} {b : Bool} {v : SV} {x y : SV} {X Y : Value} {t : TypeId} {xo yo : Operand} (h : eqOp op b = some v) (ht : ekOf P t = .slice) (hx : SR cx o1 x X) (hy : SR cx o2 y Y)
    (kx : x = .p .nils ∨ isSlice x = true) (ky : y = .p .nils ∨ isSlice y = true) (hb : (b = true ∧ x = .p .nils ∧ y = .p .nils) ∨ (b = false ∧ x ≠ .p .nils ∧ y = .p .nils) ∨ (b = false ∧ x = .p .nils ∧ y ≠ .p .nils)) :
    ∃ V, (do eqGuard op t xo yo X Y; binOp op t X Y : Sem Value).run P W = .ok V W ∧ SR cx o v V := by
  obtain ⟨e, hu⟩ := ekOf_slice ht
  obtain ⟨a, n, m, rfl, ha⟩ := SR_slice hx kx
  obtain ⟨c, n', m', rfl, hc⟩ := SR_slice hy ky
  have key : (Op.equalIn 10000 t (.slice a n m) (.slice c n' m')).run P W = .ok b W := by
    suffices H : ∀ d, (Op.equalIn (d + 1) t (.slice a n m) (.slice c n' m')).run P W = .ok b W from H 9999
    intro d
    rcases hb with ⟨rfl, h1, h2⟩ | ⟨rfl, h1, h2⟩ | ⟨rfl, h1, h2⟩
    · rw [ha.2 h1, hc.2 h2]; simp [Op.equalIn, run_underlying hu]
    · rw [hc.2 h2]
      cases a with
      | none => exact absurd (ha.1 rfl) h1
      | some a => simp [Op.equalIn, run_underlying hu]
    · rw [ha.2 h1]
      cases c with
      | none => exact absurd (hc.1 rfl) h2
      | some c => simp [Op.equalIn, run_underlying hu]
  refine eqOp_ok h (guard_slice op t xo yo a c _ _ _ _) ?_ ?_
  · rintro rfl; simp only [binOp]; simp [Op.equal, Op.maxDepth, key]
  · rintro rfl; simp only [binOp]; simp [Op.equal, Op.maxDepth, key]

theorem func_eq {op : BinOp} {b : Bool} {v : SV} {x y : SV} {X Y : Value} {t : TypeId} {xo yo : Operand} (h : eqOp op b = some v) (ht : ekOf P t = .func) (hx : SR cx o1 x X) (hy : SR cx o2 y Y)
    (hb : (b = true ∧ x = .nilf ∧ y = .nilf) ∨ (b = false ∧ (∃ f c, x = .fn f c) ∧ y = .nilf) ∨ (b = false ∧ x = .nilf ∧ ∃ f c, y = .fn f c)) :
    ∃ V, (do eqGuard op t xo yo X Y; binOp op t X Y : Sem Value).run P W = .ok V W ∧ SR cx o v V := by
  obtain ⟨fa, fb, fc, hu⟩ := ekOf_func ht
  rcases hb with ⟨rfl, rfl, rfl⟩ | ⟨rfl, ⟨f, c, rfl⟩, rfl⟩ | ⟨rfl, rfl, f, c, rfl⟩
  · simp only [SR] at hx hy; subst hx hy
    have key : (Op.equalIn 10000 t .nilFunc .nilFunc).run P W = .ok true W := by
      suffices H : ∀ d, (Op.equalIn (d + 1) t .nilFunc .nilFunc).run P W = .ok true W from H 9999
      intro d; simp [Op.equalIn, run_underlying hu]
    refine eqOp_ok h (guard_func3 op t xo yo) ?_ ?_
    · rintro rfl; simp only [binOp]; simp [Op.equal, Op.maxDepth, key]
    · rintro rfl; simp only [binOp]; simp [Op.equal, Op.maxDepth, key]
  · simp only [SR] at hx hy; obtain ⟨a, rfl, _⟩ := hx; subst hy
    have key : (Op.equalIn 10000 t (.func (.func f) #[] a) .nilFunc).run P W = .ok false W := by
      suffices H : ∀ d, (Op.equalIn (d + 1) t (.func (.func f) #[] a) .nilFunc).run P W = .ok false W from H 9999
      intro d; simp [Op.equalIn, run_underlying hu]
    refine eqOp_ok h (guard_func1 op t xo yo _ _ _) ?_ ?_
    · rintro rfl; simp only [binOp]; simp [Op.equal, Op.maxDepth, key]
    · rintro rfl; simp only [binOp]; simp [Op.equal, Op.maxDepth, key]
  · simp only [SR] at hx hy; obtain ⟨a, rfl, _⟩ := hy; subst hx
    have key : (Op.equalIn 10000 t .nilFunc (.func (.func f) #[] a)).run P W = .ok false W := by
      suffices H : ∀ d, (Op.equalIn (d + 1) t .nilFunc (.func (.func f) #[] a)).run P W = .ok false W from H 9999
      intro d; simp [Op.equalIn, run_underlying hu]
    refine eqOp_ok h (guard_func2 op t xo yo _ _ _) ?_ ?_
    · rintro rfl; simp only [binOp]; simp [Op.equal, Op.maxDepth, key]
    · rintro rfl; simp only [binOp]; simp [Op.equal, Op.maxDepth, key]

theorem pv_res {p : PV} {V : Value} {s : Sem Value} {w : World} (h : s.run P w = .ok V w ∧ PR cx.g p V) : ∃ V, s.run P w = .ok V w ∧ SR cx o (.p p) V := ⟨V, h.1, by simpa [SR] using h.2⟩

theorem binv_ok {op : BinOp} {ek : Ek} {x y v : SV} {X Y : Value} {t : TypeId} {xo yo : Operand} (h : binv op ek x y = some v) (hek : ekOf P t = ek) (hx : SR cx o1 x X) (hy : SR cx o2 y Y) :
    ∃ V, (do eqGuard op t xo yo X Y; binOp op t X Y : Sem Value).run P W = .ok V W ∧ SR cx o v V := by
  unfold binv at h
  split at h
  · simp only [SR, PR] at hx hy; subst hx hy
    split at h
    · rename_i hs
      simp only [Option.map_eq_some_iff] at h
      obtain ⟨p, hp, rfl⟩ := h
      obtain ⟨V, h1, h2⟩ := shiftOp_ok (P := P) (W := W) (cx := cx) hp t
      exact ⟨V, by simp only [Sem.run_bind, guard_int, Result.andThen_ok]; exact h1, by simpa [SR] using h2⟩
    · split at h
      · rename_i hs hk
        subst hk
        simp only [Option.map_eq_some_iff] at h
        obtain ⟨p, hp, rfl⟩ := h
        obtain ⟨V, h1, h2⟩ := intOp_ok (P := P) (W := W) (cx := cx) hp (by simpa using hs) t
        exact ⟨V, by simp only [Sem.run_bind, guard_int, Result.andThen_ok]; exact h1, by simpa [SR] using h2⟩
      · simp at h
  · simp only [SR, PR] at hx hy
    obtain ⟨s, rfl, hs⟩ := hx
    obtain ⟨s', rfl, hs'⟩ := hy
    simp only [Option.map_eq_some_iff] at h
    obtain ⟨p, hp, rfl⟩ := h
    obtain ⟨V, h1, h2⟩ := strOp_ok (P := P) (W := W) (cx := cx) hs hs' hp t
    exact ⟨V, by simp only [Sem.run_bind, guard_str, Result.andThen_ok]; exact h1, by simpa [SR] using h2⟩
  · split at h
    · rename_i a b _ _
      have hu := ekOf_bool hek
      simp only [SR, PR] at hx hy; subst hx hy
      have key : (Op.equalIn 10000 t (.bool a) (.bool b)).run P W = .ok (a == b) W := run_equalIn_bool' W 9999 t a b hu
      refine eqOp_ok h (guard_bool op t xo yo a b) ?_ ?_
      · rintro rfl; simp only [binOp]; simp [Op.equal, Op.maxDepth, key]
      · rintro rfl; simp only [binOp]; simp [Op.equal, Op.maxDepth, key]
    · rename_i ks a b _ _
      obtain ⟨hk, fs, hu⟩ := ekOf_struct hek
      simp only [SR] at hx hy
      obtain ⟨xs, rfl, hx⟩ := hx
      obtain ⟨ys, rfl, hy⟩ := hy
      simp only [Option.bind_eq_some_iff] at h
      obtain ⟨r, hr, h⟩ := h
      unfold eqL at hr
      split at hr
      case isFalse => simp at hr
      rename_i hl
      obtain ⟨bb, hb1, hb2, hb3⟩ := eqk_ok (P := P) (W := W) (g := cx.g) 8 t ks hk
      have hbb : bb = true := by simp [aggOf, hu] at hb1; exact hb1
      subst hbb
      have key := hb3 9992 a b xs.toList ys.toList r hx hy hl.1 hl.2 hr
      simp only [asV, if_true] at key
      have hgd := eqk_guard hk hu
      refine eqOp_ok h (run_eqGuard_agg W op t xo yo _ _ hgd) ?_ ?_
      · rintro rfl; rw [run_eql_struct]; simp only [show (9992 + 8 : Nat) = 10000 from rfl] at key; rw [key]; rfl
      · rintro rfl; rw [run_neq_struct]; simp only [show (9992 + 8 : Nat) = 10000 from rfl] at key; rw [key]; rfl
    · exact ptr_eq h hek hx hy (.inl rfl) (.inl rfl) (.inl ⟨rfl, rfl, rfl⟩)
    · exact ptr_eq h hek hx hy (.inr (.inl ⟨_, rfl⟩)) (.inl rfl) (.inr (.inl ⟨rfl, by simp, rfl⟩))
    · exact ptr_eq h hek hx hy (.inl rfl) (.inr (.inl ⟨_, rfl⟩)) (.inr (.inr ⟨rfl, rfl, by simp⟩))
    · exact ptr_eq h hek hx hy (.inr (.inr ⟨_, rfl⟩)) (.inl rfl) (.inr (.inl ⟨rfl, by simp, rfl⟩))
    · exact ptr_eq h hek hx hy (.inl rfl) (.inr (.inr ⟨_, rfl⟩)) (.inr (.inr ⟨rfl, rfl, by simp⟩))
    · exact func_eq h hek hx hy (.inl ⟨rfl, rfl, rfl⟩)
    · exact func_eq h hek hx hy (.inr (.inl ⟨rfl, ⟨_, _, rfl⟩, rfl⟩))
    · exact func_eq h hek hx hy (.inr (.inr ⟨rfl, rfl, ⟨_, _, rfl⟩⟩))
    · exact slice_eq h hek hx hy (.inl rfl) (.inl rfl) (.inl ⟨rfl, rfl, rfl⟩)
    · split at h
      · rename_i hne hs
        exact slice_eq h hek hx hy (.inl rfl) (.inr hs) (.inr (.inr ⟨rfl, rfl, by rintro rfl; simp [isSlice] at hs⟩))
      · simp at h
    · split at h
      · rename_i hne hs
        exact slice_eq h hek hx hy (.inr hs) (.inl rfl) (.inr (.inl ⟨rfl, by rintro rfl; simp [isSlice] at hs, rfl⟩))
      · simp at h
    · simp at h

theorem unv_ok {op : UnOp} {x v : SV} {X : Value} (h : unv op x = some v) (hx : SR cx o1 x X) : ∃ V, (Op.unary op X).run P W = .ok V W ∧ SR cx o v V := by
  unfold unv at h
  split at h
  · simp only [SR, PR] at hx; subst hx; simp at h; subst h; exact ⟨_, by simp [Op.unary, Op.intArith]; rfl, by simp [SR, PR]⟩
  · rename_i k n
    simp only [SR, PR] at hx; subst hx
    simp only [intOp, Option.map_some, Option.some.injEq] at h; subst h
    exact ⟨_, by simp [Op.unary, Op.intBits]; rfl, by simp [SR, PR]⟩
  · simp only [SR, PR] at hx; subst hx; simp at h; subst h; exact ⟨_, by simp [Op.unary]; rfl, by simp [SR, PR]⟩
  · simp at h
end
end Go.VM

/-
V: reading: places, loads, slices' parts.
-/
namespace Go.VM
open Go
set_option linter.unusedVariables false
set_option linter.unusedSimpArgs false

theorem add_mk (b off j : Nat) : (⟨b, off, none⟩ : Addr).add j = ⟨b, off + j, none⟩ := by
  unfold Addr.add
  split
  · subst_vars; rfl
  · rfl
theorem addr_eta {a : Addr} (h : a.spot = none) : a = ⟨a.block, a.off, none⟩ := by cases a; simp_all
theorem add_of {a : Addr} (h : a.spot = none) (j : Nat) : a.add j = ⟨a.block, a.off + j, none⟩ := by rw [addr_eta h, add_mk]

theorem cell_of_block {W : World} {b : Nat} {c : Array Value} {T : TypeId} {fr : Nat × Nat} (h : W.heap[b]? = some (.cells c T fr)) (off : Nat) : W.cell? ⟨b, off, none⟩ = c[off]? := by
  simp [World.cell?, h]
theorem cellsAt_iff {W : World} {b : Nat} {c : Array Value} : cellsAt W b = some c ↔ ∃ T fr, W.heap[b]? = some (.cells c T fr) := by
  unfold cellsAt
  split
  · next c' T fr h => simp [h]
  · next h =>
    simp only [reduceCtorEq, false_iff, not_exists]
    intro T fr hh; exact h c T fr hh
theorem cell_of_cellsAt {W : World} {b : Nat} {c : Array Value} (h : cellsAt W b = some c) (off : Nat) : W.cell? ⟨b, off, none⟩ = c[off]? := by
  obtain ⟨T, fr, h⟩ := cellsAt_iff.1 h
  exact cell_of_block h off

section
variable {P : Program} {W : World} {cx : Cx} {o o1 o2 : List Nat → Option Owner}

theorem SRs.length : ∀ {i : Nat} {v : List SV} {x : List Value}, SRs cx o i v x → x.length = v.length
  | _, [], [], _ => rfl
  | i, v :: vs, x :: xs, e => by simp only [SRs] at e; simp [SRs.length e.2]
  | _, [], _ :: _, e => by simp [SRs] at e
  | _, _ :: _, [], e => by simp [SRs] at e
theorem SRs.get : ∀ {i : Nat} {v : List SV} {x : List Value} (j : Nat) {s : SV}, SRs cx o i v x → v[j]? = some s → ∃ y, x[j]? = some y ∧ SR cx (fun π => o ((i + j) :: π)) s y
  | i, v :: vs, x :: xs, 0, s, e, h => by simp at h; subst h; simp only [SRs] at e; exact ⟨x, by simp, by simpa using e.1⟩
  | i, v :: vs, x :: xs, j + 1, s, e, h => by
    simp only [SRs] at e; simp at h
    obtain ⟨y, h1, h2⟩ := SRs.get j e.2 h
    exact ⟨y, by simpa using h1, by rw [show i + (j + 1) = i + 1 + j by omega]; exact h2⟩
  | _, [], _, _, _, _, h => by simp at h
  | _, _ :: _, [], _, _, e, _ => by simp [SRs] at e
theorem SRs.drop : ∀ {i : Nat} {v : List SV} {x : List Value} (n : Nat), SRs cx o i v x → SRs cx o (i + n) (v.drop n) (x.drop n)
  | _, _, _, 0, h => by simpa using h
  | _, [], [], n + 1, _ => by simp [SRs]
  | i, v :: vs, x :: xs, n + 1, e => by simp only [SRs, List.drop_succ_cons] at e ⊢; rw [show i + (n + 1) = i + 1 + n by omega]; exact SRs.drop n e.2
  | _, [], _ :: _, _ + 1, e => by simp [SRs] at e
  | _, _ :: _, [], _ + 1, e => by simp [SRs] at e
theorem SRs.take : ∀ {i : Nat} {v : List SV} {x : List Value} (n : Nat), SRs cx o i v x → SRs cx o i (v.take n) (x.take n)
  | _, _, _, 0, h => by simp [SRs]
  | _, [], [], n + 1, _ => by simp [SRs]
  | i, v :: vs, x :: xs, n + 1, e => by simp only [SRs, List.take_succ_cons] at e ⊢; exact ⟨e.1, SRs.take n e.2⟩
  | _, [], _ :: _, _ + 1, e => by simp [SRs] at e
  | _, _ :: _, [], _ + 1, e => by simp [SRs] at e
theorem SRs.append : ∀ {i : Nat} {v v' : List SV} {x x' : List Value}, SRs cx o i v x → SRs cx o (i + v.length) v' x' → SRs cx o i (v ++ v') (x ++ x')
  | _, [], _, [], _, _, h => by simpa using h
  | i, v :: vs, _, x :: xs, _, e, h => by
    simp only [SRs, List.cons_append] at e ⊢
    refine ⟨e.1, SRs.append e.2 ?_⟩
    rw [show i + 1 + vs.length = i + (v :: vs).length by simp; omega]; exact h
  | _, [], _, _ :: _, _, e, _ => by simp [SRs] at e
  | _, _ :: _, _, [], _, e, _ => by simp [SRs] at e

theorem SRs.plains : ∀ {i : Nat} {v : List SV} {x : List Value} {l : List PV}, SRs cx o i v x → plains v = some l → PRs cx.g l x
  | _, [], [], _, _, h => by simp [VM.plains] at h; subst h; simp [PRs]
  | i, v :: vs, x :: xs, l, e, h => by
    simp only [SRs] at e
    cases v <;> simp only [VM.plains, Option.map_eq_some_iff, reduceCtorEq] at h
    obtain ⟨l', h1, rfl⟩ := h
    simp only [PRs]
    exact ⟨by simpa [SR] using e.1, SRs.plains e.2 h1⟩
  | _, [], _ :: _, _, e, _ => by simp [SRs] at e
  | _, _ :: _, [], _, e, _ => by simp [SRs] at e
theorem PRs.toSRs : ∀ {i : Nat} {v : List PV} {x : List Value}, PRs cx.g v x → SRs cx o i (v.map .p) x
  | _, [], [], _ => by simp [SRs]
  | i, v :: vs, x :: xs, e => by simp only [PRs, List.map_cons, SRs] at e ⊢; exact ⟨by simpa [SR] using e.1, PRs.toSRs e.2⟩
  | _, [], _ :: _, e => by simp [PRs] at e
  | _, _ :: _, [], e => by simp [PRs] at e
theorem plains_map (l : List PV) : plains (l.map .p) = some l := by
  induction l with
  | nil => rfl
  | cons a l ih => simp [plains, ih]

theorem ofCells_ok {v : List SV} {x : Array Value} (h : SRs cx o 0 v x.toList) : SR cx o (ofCells v) (.agg x) := by
  unfold ofCells
  split
  · next l hl => simp only [SR]; exact ⟨x, rfl, SRs.plains h hl⟩
  · simp only [SR]; exact ⟨x, rfl, h⟩

/-- a value's cells -/
theorem cells_ok {v : SV} {X : Value} (h : SR cx o v X) (hu : v ≠ .undef) : SRs cx (match v with | .pagg _ | .agg _ => o | _ => fun π => match π with | [] => none | _ :: r => o r) 0 v.cells X.cells.toList := by
  cases v with
  | pagg cs => simp only [SR] at h; obtain ⟨a, rfl, h⟩ := h; simpa [SV.cells, Value.cells] using PRs.toSRs h
  | agg cs => simp only [SR] at h; obtain ⟨a, rfl, h⟩ := h; simpa [SV.cells, Value.cells] using h
  | undef => exact absurd rfl hu
  | p v =>
    have : X.cells = #[X] := by
      cases v <;> simp only [SR, PR] at h
      case int | bool | nils => subst h; rfl
      case str => obtain ⟨s, rfl, _⟩ := h; rfl
      case ro => obtain ⟨a, n, c, rfl, _⟩ := h; rfl
    rw [this]; simpa [SV.cells, SRs] using h
  | own s es => have : X.cells = #[X] := by (simp only [SR, OwnR] at h; obtain ⟨a, n, c, rfl, _⟩ := h; rfl)
                rw [this]; simpa [SV.cells, SRs] using h
  | lent s es => have : X.cells = #[X] := by (simp only [SR, LentR] at h; obtain ⟨a, n, c, rfl, _⟩ := h; rfl)
                 rw [this]; simpa [SV.cells, SRs] using h
  | al pl s lo n => have : X.cells = #[X] := by (simp only [SR, AlR] at h; obtain ⟨_, a, m, c, b, c', _, _, _, _, rfl, _⟩ := h; rfl)
                    rw [this]; simpa [SV.cells, SRs] using h
  | ptr pl => have : X.cells = #[X] := by (obtain ⟨a, rfl, _⟩ := SR_ptr h (.inr (.inl ⟨_, rfl⟩)); rfl)
              rw [this]; simpa [SV.cells, SRs] using h
  | cptr c => have : X.cells = #[X] := by (obtain ⟨a, rfl, _⟩ := SR_ptr h (.inr (.inr ⟨_, rfl⟩)); rfl)
              rw [this]; simpa [SV.cells, SRs] using h
  | nilp => simp only [SR] at h; subst h; simp [SV.cells, Value.cells, SRs, SR]
  | nilf => simp only [SR] at h; subst h; simp [SV.cells, Value.cells, SRs, SR]
  | fn f c => have : X.cells = #[X] := by (simp only [SR] at h; obtain ⟨a, rfl, _⟩ := h; rfl)
              rw [this]; simpa [SV.cells, SRs] using h
  | tup vs => have : X.cells = #[X] := by (simp only [SR] at h; obtain ⟨a, rfl, _⟩ := h; rfl)
              rw [this]; simpa [SV.cells, SRs] using h
end

section
variable {P : Program} {ba : Ba} {σ : St} {g : Gh} {tmps : Array Value} {W : World}

theorem Rel.cellsΨ (hr : Rel ba σ g tmps W) {b : Nat} {c : Array Value} (h : g.Ψ b = some c) : cellsAt W b = some c := (hr.stab b c h).2

/-- an own slice in its place: as memory has it -/
theorem Rel.place (hr : Rel ba σ g tmps W) {pl : Place} {s : Nat} {es : List (List PV)} (h : rdOwn σ pl = some (s, es)) {x : Value} (hx : hdr ⟨g, W, tmps, σ.env⟩ pl = some x) :
    ∃ ow, OwnR ⟨g, W, tmps, σ.env⟩ ow s es x ∧ (ow = none ∨ ∃ r π, isSl r = isSl pl.root ∧ r = pl.root ∧ ow = some (.cell r π) ∧ (π = [] ∨ π = [pl.off]) ∧ (isSl pl.root = true → π = [])) ∧ pl.row = none ∧ (writable ba pl.root = true → ow ≠ none) := by
  unfold rdOwn at h
  split at h
  case h_2 => simp at h
  rename_i hrow
  simp only [Option.bind_eq_some_iff] at h
  obtain ⟨cs, hob, h⟩ := h
  split at h
  case h_2 => simp at h
  rename_i s' es' hc
  simp only [Option.some.injEq, Prod.mk.injEq] at h
  obtain ⟨rfl, rfl⟩ := h
  cases hroot : pl.root with
  | sl k =>
    rw [hroot] at hob
    simp only [hdr, hroot] at hx
    split at hx
    case isFalse => simp at hx
    rename_i hk
    have he := hr.env k
    cases hv : getD .undef σ.env k <;> simp [hv, isOwn] at hk
    rename_i s0 es0
    simp only [St.obj, hv, Option.some.injEq] at hob
    subst hob
    simp only [hk, List.getElem?_cons_zero, Option.some.injEq, SV.own.injEq] at hc
    obtain ⟨rfl, rfl⟩ := hc
    rw [hv] at he
    simp only [SR] at he
    refine ⟨_, ?_, .inr ⟨.sl k, [], rfl, rfl, rfl, .inl rfl, fun _ => rfl⟩, hrow, by simp [slotO]⟩
    rw [Array.getD_eq_getD_getElem?, hx] at he
    exact he
  | hp i | st d i =>
    all_goals
      rw [← hroot]
      have hsl : isSl pl.root = false := by rw [hroot]; rfl
      have hne : cs ≠ [] := by rintro rfl; simp at hc
      obtain ⟨b, c, T, fr, hb, hW, hun, hown, hcs, hok⟩ := hr.mem pl.root cs hsl (by rw [hroot] at hob ⊢; exact hob) hne
      obtain ⟨y, hy1, hy2⟩ := SRs.get pl.off hcs hc
      have hh : hdr ⟨g, W, tmps, σ.env⟩ pl = c[pl.off]? := by
        simp only [hdr, hroot] at hb ⊢
        rw [hb]
        simp [cell_of_block hW]
      rw [hh] at hx
      simp only [Array.getElem?_toList] at hy1
      rw [hy1] at hx
      simp only [Option.some.injEq] at hx
      subst hx
      simp only [SR] at hy2
      refine ⟨_, hy2, ?_, hrow, ?_⟩
      · simp only [ownerOf]
        split
        · exact .inr ⟨pl.root, [pl.off], rfl, rfl, by simp, .inr rfl, by simp [hsl]⟩
        · exact .inl rfl
      · intro hw; simp [ownerOf, hw]

/-- where a slice's elements lie -/
def RowsAt (g : Gh) (W : World) (es : List (List PV)) (X : Value) : Prop :=
  ∃ a n cap, X = .slice a n cap ∧ n = es.length ∧ n ≤ cap ∧ (n = 0 ∨ ∃ b s c, a = some b ∧ b.spot = none ∧ lensAre s es ∧ cellsAt W b.block = some c ∧ PRss g es (c.toList.drop b.off))

theorem sub_some {α : Type} {l : List α} {o n : Nat} {r : List α} (h : sub l o n = some r) : o + n ≤ l.length ∧ r = (l.drop o).take n := by
  unfold sub at h
  split at h
  · simp at h; exact ⟨by assumption, h.symm⟩
  · simp at h

theorem rows_ok (hr : Rel ba σ g tmps W) {o : List Nat → Option Owner} {v : SV} {es : List (List PV)} {X : Value} (h : rowsOf σ v = some es) (hv : SR ⟨g, W, tmps, σ.env⟩ o v X) : RowsAt g W es X := by
  unfold rowsOf at h
  split at h
  · simp at h; subst h; simp only [SR, PR] at hv; subst hv; exact ⟨_, _, _, rfl, rfl, Nat.le_refl _, .inl rfl⟩
  · simp at h; subst h; simp only [SR, PR] at hv
    obtain ⟨a, n, cap, rfl, h1, h2, h3, h4⟩ := hv
    refine ⟨_, _, _, rfl, h1.symm, h2, ?_⟩
    rcases h4 with h4 | ⟨h5, h6, c, h7, h8⟩
    · exact .inl h4
    · by_cases hn : n = 0
      · exact .inl hn
      · exact .inr ⟨a, _, c, rfl, h3 hn, h6, hr.cellsΨ h7, h8⟩
  · simp at h; subst h; simp only [SR, LentR] at hv
    obtain ⟨a, n, cap, rfl, h1, h2, h3, h4⟩ := hv
    refine ⟨_, _, _, rfl, h1.symm, h2, ?_⟩
    rcases h4 with h4 | ⟨h6, c, h7, h8⟩
    · exact .inl h4
    · exact .inr ⟨a, _, c, rfl, h3, h6, hr.cellsΨ h7, h8⟩
  · rename_i pl s lo n
    simp only [Option.bind_eq_some_iff] at h
    obtain ⟨⟨s', es'⟩, h1, h2⟩ := h
    split at h2
    case isFalse => simp at h2
    rename_i hs
    simp only at hs h2; subst hs
    obtain ⟨hle, rfl⟩ := sub_some h2
    simp only [SR, AlR] at hv
    obtain ⟨hrow, a, m, cap, b, cap', hh, ha, h3, h4, rfl, h5, h6, h7⟩ := hv
    obtain ⟨ow, ⟨a', n', cp, hx, e1, e2, e3, e4, e5⟩, _⟩ := hr.place h1 hh
    simp only [Value.slice.injEq, Option.some.injEq] at hx
    obtain ⟨rfl, rfl, rfl⟩ := hx
    refine ⟨_, _, _, rfl, by simp; omega, h5, ?_⟩
    rcases h7 with h7 | ⟨h8, h9, h10⟩
    · left; omega
    · by_cases hn : n = 0
      · exact .inl hn
      right
      rcases e5 with e5 | ⟨c, T, fr, e6, e7, e8, e9, e10⟩
      · omega
      refine ⟨b, s', c, rfl, h6, (e4.drop lo).take n, ?_, ?_⟩
      · rw [h8]; exact cellsAt_iff.2 ⟨T, fr, e6⟩
      · have := PRss.take n (PRss.drop lo e4 e10)
        rw [List.drop_drop] at this
        rw [h9]; exact this
  · simp at h
end
end Go.VM

namespace Go.VM
open Go
section
variable {P : Program} {ba : Ba} {σ : St} {g : Gh} {tmps : Array Value} {W : World}

theorem okMem_owns {v : SV} (h : okMem v = true) (ho : isOwn v = false) : owns v = false := by
  cases v <;> simp_all [okMem, isOwn, owns]

theorem aliasC_ok {cx : Cx} {pl : Place} (hrow : pl.row = none) {o o' : List Nat → Option Owner} : ∀ (cs : List SV) (xs : List Value) (i i' j : Nat),
    (∀ k x, xs[k]? = some x → hdr cx { pl with off := pl.off + (j + k) } = some x) → cs.all okMem = true → SRs cx o i cs xs → SRs cx o' i' (aliasC pl j cs) xs
  | [], [], _, _, _, _, _, _ => by simp [aliasC, SRs]
  | c :: cs, x :: xs, i, i', j, hh, hok, h => by
    simp only [SRs] at h
    simp only [List.all_cons, Bool.and_eq_true] at hok
    have ih := fun i'' => aliasC_ok (o' := o') hrow cs xs (i + 1) i'' (j + 1) (fun k x hx => by
      have := hh (k + 1) x (by simpa using hx)
      rw [show j + 1 + k = j + (k + 1) by omega]; exact this) hok.2 h.2
    by_cases hc : isOwn c = true
    · cases c <;> simp [isOwn] at hc
      rename_i s es
      simp only [aliasC, SRs]
      refine ⟨?_, ih _⟩
      have h1 := h.1
      simp only [SR] at h1
      obtain ⟨a, n, cap, rfl, e1, e2, e3, e4, e5⟩ := h1
      simp only [SR, AlR]
      have h0 := hh 0 _ rfl
      refine ⟨hrow, a, n, cap, a, cap, by simpa using h0, e3, by omega, e2, by rw [e1], by omega, e3, ?_⟩
      by_cases hz : cap = 0
      · exact .inl hz
      · exact .inr ⟨rfl, by simp, by omega⟩
    · have hc' : isOwn c = false := by simpa using hc
      have : aliasC pl j (c :: cs) = c :: aliasC pl (j + 1) cs := by cases c <;> simp_all [aliasC, isOwn]
      rw [this]
      simp only [SRs]
      exact ⟨SR.anyO (okMem_owns hok.1 hc') h.1, ih _⟩
  | [], _ :: _, _, _, _, _, _, h => by simp [SRs] at h
  | _ :: _, [], _, _, _, _, _, h => by simp [SRs] at h

theorem aliasC_p (pl : Place) : ∀ (j : Nat) (l : List PV), aliasC pl j (l.map .p) = l.map .p
  | _, [] => rfl
  | j, v :: l => by simp [aliasC, aliasC_p pl (j + 1) l]

theorem aliasC_length (pl : Place) : ∀ (j : Nat) (l : List SV), (aliasC pl j l).length = l.length
  | _, [] => rfl
  | j, v :: l => by cases v <;> simp [aliasC, aliasC_length pl (j + 1) l]

/-- some cells behind an address -/
theorem rdCells_ok (hr : Rel ba σ g tmps W) {pl : Place} {n : Nat} {cs : List SV} {X : Value} (h : rdCells σ pl n = some cs) (hn : n ≠ 0) (hx : PtrR ⟨g, W, tmps, σ.env⟩ pl X) :
    ∃ b off, X = .pointer (some ⟨b, off, none⟩) ∧ ∃ xs : List Value, xs.length = n ∧ (∀ j v, xs[j]? = some v → W.cell? ⟨b, off + j, none⟩ = some v) ∧
      ∀ (o' : List Nat → Option Owner) (i : Nat), SRs ⟨g, W, tmps, σ.env⟩ o' i (aliasC pl 0 cs) xs := by
  unfold rdCells at h
  simp only [Option.bind_eq_some_iff] at h
  obtain ⟨ob, hob, h⟩ := h
  unfold PtrR at hx
  split at hx
  · next hrow =>
    obtain ⟨hsl, b, hb, rfl⟩ := hx
    rw [hrow] at h
    simp only [hsl, Bool.false_eq_true, if_false] at h
    obtain ⟨hle, rfl⟩ := sub_some h
    have hne : ob ≠ [] := by rintro rfl; simp at hle; omega
    obtain ⟨b', c, T, fr, hb', hW, hun, hown, hcs, hok⟩ := hr.mem pl.root ob hsl hob hne
    simp only at hb'
    rw [hb] at hb'; simp only [Option.some.injEq] at hb'; subst hb'
    have hl := SRs.length hcs
    refine ⟨b, pl.off, rfl, (c.toList.drop pl.off).take n, by simp at hl ⊢; omega, ?_, ?_⟩
    · intro j v hv
      rw [cell_of_block hW]
      rw [List.getElem?_take] at hv
      split at hv
      · simpa using hv
      · simp at hv
    · intro o' i
      refine aliasC_ok hrow _ _ (0 + pl.off) i 0 ?_ ?_ (SRs.take n (SRs.drop pl.off hcs))
      · intro k x hk
        have : W.cell? ⟨b, pl.off + k, none⟩ = some x := by
          rw [cell_of_block hW]
          rw [List.getElem?_take] at hk
          split at hk
          · simpa using hk
          · simp at hk
        cases hroot : pl.root with
        | sl _ => rw [hroot] at hsl; simp [isSl] at hsl
        | hp _ | st _ _ => simp only [hdr, hroot] at hb ⊢; rw [hb]; simpa using this
      · have hok := okAt_all hok
        rw [List.all_eq_true] at hok ⊢
        intro v hv
        exact hok v (List.mem_of_mem_drop (List.mem_of_mem_take hv))
  · next s e off hrow =>
    obtain ⟨a, m, cap, hh, ha, rfl⟩ := hx
    rw [hrow] at h
    simp only at h
    split at h
    case h_2 => simp at h
    rename_i t es hc
    split at h
    case isFalse => simp at h
    rename_i hst; subst hst
    simp only [Option.bind_eq_some_iff, Option.map_eq_some_iff] at h
    obtain ⟨el, hel, ps, hps, rfl⟩ := h
    obtain ⟨hle, rfl⟩ := sub_some hps
    have hrd : rdOwn σ { pl with row := none } = some (s, es) := by
      unfold rdOwn
      simp [hob, hc]
    obtain ⟨ow, ⟨a', n', cp, hx, e1, e2, e3, e4, e5⟩, _⟩ := hr.place hrd hh
    simp only [Value.slice.injEq, Option.some.injEq] at hx
    obtain ⟨rfl, rfl, rfl⟩ := hx
    have hlt : e < es.length := by
      rcases Nat.lt_or_ge e es.length with h | h
      · exact h
      · simp [List.getElem?_eq_none h] at hel
    rcases e5 with e5 | ⟨c, T, fr, e6, e7, e8, e9, e10⟩
    · omega
    obtain ⟨hp, hlen⟩ := PRss.get e e4 e10 hel
    have hp2 := PRs.take n (PRs.drop off hp)
    refine ⟨a.block, a.off + e * s + off, rfl, _, PRs.length hp2 |>.trans (by simp; omega), ?_, fun o' i => by rw [aliasC_p]; exact PRs.toSRs hp2⟩
    intro j v hv
    rw [cell_of_block e6]
    rw [List.getElem?_take] at hv
    split at hv
    · rw [List.getElem?_drop, List.getElem?_take] at hv
      split at hv
      · rw [List.getElem?_drop, List.getElem?_drop] at hv
        rw [← hv]; simp; congr 1; omega
      · simp at hv
    · simp at hv

theorem run_loadVar_one {t : TypeId} {b off : Nat} {v : Value} (ha : aggOf P t = some false) (h : W.cell? ⟨b, off, none⟩ = some v) : (Instr.loadAt t (.pointer (some ⟨b, off, none⟩))).run P W = .ok v W := by
  simp [Instr.loadAt, Instr.sureAddr, loadVar, run_isAgg ha, h]
theorem run_loadVar_agg {t : TypeId} {b off n : Nat} {xs : List Value} (ha : aggOf P t = some true) (hn : szOf P t = some n) (hl : xs.length = n) (h : ∀ j v, xs[j]? = some v → W.cell? ⟨b, off + j, none⟩ = some v) :
    (Instr.loadAt t (.pointer (some ⟨b, off, none⟩))).run P W = .ok (.agg xs.toArray) W := by
  have := run_loadCells_list (P := P) W ⟨b, off, none⟩ xs (fun j v hv => by rw [add_mk]; exact h j v hv)
  rw [hl] at this
  simp [Instr.loadAt, Instr.sureAddr, loadVar, run_isAgg ha, run_sizeOf hn, this]

theorem ldOf_none {t : TypeId} (h : ldOf P t = some none) : aggOf P t = some false := by
  simp only [ldOf, Option.bind_eq_some_iff] at h
  obtain ⟨b, hb, h⟩ := h
  cases b
  · exact hb
  · simp only [if_true, Option.bind_eq_some_iff] at h
    obtain ⟨n, _, h⟩ := h
    split at h <;> simp at h
theorem ldOf_some {t : TypeId} {n : Nat} (h : ldOf P t = some (some n)) : aggOf P t = some true ∧ szOf P t = some n ∧ n ≠ 0 := by
  simp only [ldOf, Option.bind_eq_some_iff] at h
  obtain ⟨b, hb, h⟩ := h
  cases b
  · simp at h
  · simp only [if_true, Option.bind_eq_some_iff] at h
    obtain ⟨m, hm, h⟩ := h
    split at h
    · simp at h
    · simp at h; subst h; exact ⟨hb, hm, by assumption⟩

theorem loadv_ok (hr : Rel ba σ g tmps W) {sz : Option Nat} {a v : SV} {A : Value} {t : TypeId} {o o' : List Nat → Option Owner} (h : loadv σ sz a = some v) (ht : ldOf P t = some sz)
    (ha : SR ⟨g, W, tmps, σ.env⟩ o a A) : ∃ V, (Instr.loadAt t A).run P W = .ok V W ∧ SR ⟨g, W, tmps, σ.env⟩ o' v V := by
  unfold loadv at h
  split at h
  · rename_i pl
    simp only [SR] at ha
    cases sz with
    | none =>
      simp only [Option.bind_eq_some_iff] at h
      obtain ⟨cs, hcs, h⟩ := h
      obtain ⟨b, off, rfl, xs, hl, hxs, hS⟩ := rdCells_ok hr hcs (by omega) ha
      have hS := hS (fun π => match π with | [] => none | _ :: r => o' r) 0
      match xs, hl with
      | [x], _ =>
        refine ⟨x, run_loadVar_one (ldOf_none ht) (by simpa using hxs 0 x rfl), ?_⟩
        cases hal : aliasC pl 0 cs with
        | nil => rw [hal] at h; simp at h
        | cons c r =>
          rw [hal] at h hS
          simp at h; subst h
          simp only [SRs] at hS
          exact hS.1
    | some n =>
      simp only [Option.map_eq_some_iff] at h
      obtain ⟨cs, hcs, rfl⟩ := h
      obtain ⟨h1, h2, h3⟩ := ldOf_some ht
      obtain ⟨b, off, rfl, xs, hl, hxs, hS⟩ := rdCells_ok hr hcs h3 ha
      exact ⟨_, run_loadVar_agg h1 h2 hl hxs, ofCells_ok (by simpa using hS o' 0)⟩
  · rename_i cs
    simp only [SR, CptrR] at ha
    obtain ⟨b, off, c, rfl, hc, hps⟩ := ha
    have hc := hr.cellsΨ hc
    have hcell : ∀ j v, ((c.toList.drop off).take cs.length)[j]? = some v → W.cell? ⟨b, off + j, none⟩ = some v := by
      intro j v hv
      rw [cell_of_cellsAt hc]
      rw [List.getElem?_take] at hv
      split at hv
      · simpa using hv
      · simp at hv
    cases sz with
    | none =>
      simp only [Option.map_eq_some_iff] at h
      obtain ⟨p, hp, rfl⟩ := h
      have hp0 : cs[0]? = some p := by cases cs <;> simp_all
      obtain ⟨y, hy, hy2⟩ := PRs.get 0 hps hp0
      exact ⟨y, run_loadVar_one (ldOf_none ht) (by simpa using hcell 0 y hy), by simpa [SR] using hy2⟩
    | some n =>
      simp only [Option.map_eq_some_iff] at h
      obtain ⟨l, hl, rfl⟩ := h
      obtain ⟨hle, rfl⟩ := sub_some hl
      obtain ⟨h1, h2, h3⟩ := ldOf_some ht
      have hp2 := PRs.take n hps
      refine ⟨_, run_loadVar_agg h1 h2 ((PRs.length hp2).trans (by simp; omega)) (fun j v hv => hcell j v ?_), by simp only [SR]; exact ⟨_, rfl, by simpa using hp2⟩⟩
      rw [List.getElem?_take] at hv
      split at hv
      · exact hv
      · simp at hv
  · simp at h
end
end Go.VM

/-
V: addresses, parts of slices and structs, conversions, lengths.
-/
namespace Go.VM
open Go
set_option linter.unusedVariables false
set_option linter.unusedSimpArgs false

section
variable {P : Program} {W : World} {cx : Cx} {o o1 o2 : List Nat → Option Owner}

theorem natOf_ok {v : SV} {n : Nat} {X : Value} (h : natOf v = some n) (hv : SR cx o v X) : ∃ k, X = .int k (n : Int) := by
  unfold natOf at h
  split at h
  · rename_i k m
    split at h
    · simp at h; subst h
      simp only [SR, PR] at hv
      exact ⟨k, by rw [hv]; congr 1; omega⟩
    · simp at h
  · simp at h

theorem run_asIntOf (k : IntKind) (n : Int) : (asIntOf (.int k n)).run P W = .ok (k, n) W := rfl

theorem nilck_ok {x v : SV} {X : Value} (hx : SR cx o x X) (h : nilckv x = some v) (pos : String) (d : Option Tmp) (t : TypeId) (af : Array Edge) (gd : Option (Nat × Bool)) (ρ : Operand → Value) (y : Operand) (hy : ρ y = X) :
    (execOp ρ ⟨d, .nilCheck y, t, pos, af, gd⟩).run P W = .ok (.value X) W ∧ SR cx o v X := by
  cases x <;> simp [nilckv] at h
  case ptr pl =>
    subst h
    obtain ⟨a, rfl, ha⟩ := SR_ptr hx (.inr (.inl ⟨_, rfl⟩))
    refine ⟨?_, hx⟩
    cases a with
    | none => simp at ha
    | some a => simp [execOp, hy]
  case cptr c =>
    subst h
    obtain ⟨a, rfl, ha⟩ := SR_ptr hx (.inr (.inr ⟨_, rfl⟩))
    refine ⟨?_, hx⟩
    cases a with
    | none => simp at ha
    | some a => simp [execOp, hy]
  case fn f c =>
    subst h
    have hx' := hx
    simp only [SR] at hx'
    obtain ⟨a, rfl, _⟩ := hx'
    exact ⟨by simp [execOp, hy], hx⟩

theorem PtrR.shift {pl : Place} {X : Value} (h : PtrR cx pl X) (n : Nat) : ∃ b off, X = .pointer (some ⟨b, off, none⟩) ∧ PtrR cx (shiftP pl n) (.pointer (some ⟨b, off + n, none⟩)) := by
  unfold PtrR at h
  split at h
  · next hrow =>
    obtain ⟨h1, b, h2, rfl⟩ := h
    refine ⟨b, pl.off, rfl, ?_⟩
    simp only [shiftP, hrow, PtrR]
    exact ⟨h1, b, h2, rfl⟩
  · next s e o hrow =>
    obtain ⟨a, m, cap, h1, h2, rfl⟩ := h
    refine ⟨_, _, rfl, ?_⟩
    simp only [shiftP, hrow, PtrR]
    exact ⟨a, m, cap, h1, h2, by rw [Nat.add_assoc]⟩

theorem CptrR.shift {cs : List PV} {X : Value} (h : CptrR cx cs X) (n : Nat) : ∃ b off, X = .pointer (some ⟨b, off, none⟩) ∧ CptrR cx (cs.drop n) (.pointer (some ⟨b, off + n, none⟩)) := by
  obtain ⟨b, off, c, rfl, h1, h2⟩ := h
  refine ⟨b, off, rfl, b, off + n, c, rfl, h1, ?_⟩
  have := PRs.drop n h2
  rw [List.drop_take, List.drop_drop] at this
  rw [List.length_drop]
  exact this

theorem faddrv_ok' {off : Nat} {x v : SV} {X : Value} (h : faddrv off x = some v) (hx : SR cx o x X) : ∃ b f, X = .pointer (some ⟨b, f, none⟩) ∧ SR cx o2 v (.pointer (some ⟨b, f + off, none⟩)) := by
  unfold faddrv at h
  split at h
  · simp at h; subst h; simp only [SR] at hx ⊢; exact hx.shift off
  · simp at h; subst h; simp only [SR] at hx ⊢; exact hx.shift off
  · simp at h

theorem fldOf_ok {t : TypeId} {f off : Nat} {ty : TypeId} (h : fldOf P t f = some (off, ty)) : ∃ fs fl, P.underlying t = some (.struct fs) ∧ fs[f]? = some fl ∧ fl.offset = off ∧ fl.type = ty := by
  unfold fldOf at h
  split at h
  · next fs hu =>
    simp only [Option.map_eq_some_iff, Prod.mk.injEq] at h
    obtain ⟨fl, h1, h2, h3⟩ := h
    exact ⟨fs, fl, hu, h1, h2, h3⟩
  · simp at h

theorem faddr_ok {t : TypeId} {f off n : Nat} {ty : TypeId} {x v : SV} {X : Value} (h : faddrv off x = some v) (hf : fldOf P t f = some (off, ty)) (hn : szOf P ty = some n) (h0 : n ≠ 0) (hx : SR cx o x X) :
    ∃ V, (Instr.fieldAt t X f).run P W = .ok V W ∧ SR cx o2 v V := by
  obtain ⟨b, fo, rfl, h2⟩ := faddrv_ok' (o2 := o2) h hx
  obtain ⟨fs, fl, hu, hfl, rfl, rfl⟩ := fldOf_ok hf
  refine ⟨_, ?_, h2⟩
  simp [Instr.fieldAt, run_underlying hu, hfl, Instr.sureAddr, fieldPlace, run_sizeOf hn, h0, add_mk]

theorem iaddr_ok {t e : TypeId} {s : Nat} {x i v : SV} {X I : Value} (h : iaddrv s x i = some v) (ht : P.underlying t = some (.slice e)) (hs : szOf P e = some s) (hx : SR cx o x X) (hi : SR cx o1 i I) :
    ∃ V, (Instr.indexAt t X I).run P W = .ok V W ∧ SR cx o2 v V := by
  simp only [iaddrv, Option.bind_eq_some_iff] at h
  obtain ⟨n, hn, h⟩ := h
  obtain ⟨k, rfl⟩ := natOf_ok hn hi
  have key : ∀ (b : Addr) (m c : Nat), b.spot = none → n < m → (Instr.indexAt t (.slice (some b) m c) (.int k n)).run P W = .ok (.pointer (some ⟨b.block, b.off + n * s, none⟩)) W := by
    intro b m c hb hlt
    simp [Instr.indexAt, run_asIntOf, run_underlying ht, run_sizeOf hs, hlt, add_of hb]
  have ro : ∀ (es : List (List PV)), (∃ a m cap, X = .slice (some a) m cap ∧ es.length = m ∧ m ≤ cap ∧ (m ≠ 0 → a.spot = none) ∧ (m = 0 ∨ (lensAre s es ∧ ∃ c, cx.g.Ψ a.block = some c ∧ PRss cx.g es (c.toList.drop a.off)))) →
      (es[n]?).map SV.cptr = some v → ∃ V, (Instr.indexAt t X (.int k n)).run P W = .ok V W ∧ SR cx o2 v V := by
    intro es ⟨a, m, cap, hX, e1, e2, e3, e4⟩ he
    subst hX
    simp only [Option.map_eq_some_iff] at he
    obtain ⟨el, hel, rfl⟩ := he
    have hlt : n < es.length := by
      rcases Nat.lt_or_ge n es.length with h | h
      · exact h
      · simp [List.getElem?_eq_none h] at hel
    rcases e4 with e4 | ⟨e5, c, e6, e7⟩
    · omega
    obtain ⟨hp, hlen⟩ := PRss.get n e5 e7 hel
    refine ⟨_, key a m cap (e3 (by omega)) (by omega), ?_⟩
    simp only [SR, CptrR]
    refine ⟨_, _, c, rfl, e6, ?_⟩
    rw [hlen]
    rwa [List.drop_drop] at hp
  split at h
  · split at h
    case isFalse => simp at h
    rename_i hst; subst hst
    simp only [SR, PR] at hx
    obtain ⟨a, m, cap, rfl, e1, e2, e3, e4⟩ := hx
    refine ro _ ⟨a, m, cap, rfl, e1, e2, e3, ?_⟩ h
    rcases e4 with e4 | ⟨_, e5, e6⟩
    · exact .inl e4
    · exact .inr ⟨e5, e6⟩
  · split at h
    case isFalse => simp at h
    rename_i hst; subst hst
    simp only [SR, LentR] at hx
    obtain ⟨a, m, cap, e0, e1, e2, e3, e4⟩ := hx
    exact ro _ ⟨a, m, cap, e0, e1, e2, fun _ => e3, e4⟩ h
  · rename_i pl t' lo m
    split at h
    case isFalse => simp at h
    rename_i hc
    obtain ⟨rfl, hlt, hrow⟩ := hc
    simp at h; subst h
    simp only [SR, AlR] at hx
    obtain ⟨_, a, m', cap, b, cap', hh, ha, h3, h4, rfl, h5, h6, h7⟩ := hx
    refine ⟨_, key b m cap' h6 hlt, ?_⟩
    simp only [SR, PtrR]
    rcases h7 with h7 | ⟨h8, h9, h10⟩
    · omega
    refine ⟨a, m', cap, ?_, ha, ?_⟩
    · have : ({ root := pl.root, off := pl.off, row := none } : Place) = pl := by cases pl; simp_all
      rw [this]; exact hh
    · rw [h8, h9, Nat.add_mul, Nat.add_zero]; simp [Nat.add_assoc]
  · simp at h

theorem iaddrA_ok {t e : TypeId} {len s : Nat} {x i v : SV} {X I : Value} (h : iaddrAv len s x i = some v) (ht : P.underlying t = some (.array len e)) (hs : szOf P e = some s) (hx : SR cx o x X) (hi : SR cx o1 i I) :
    ∃ V, (Instr.indexAt t X I).run P W = .ok V W ∧ SR cx o2 v V := by
  simp only [iaddrAv, Option.bind_eq_some_iff] at h
  obtain ⟨n, hn, h⟩ := h
  obtain ⟨k, rfl⟩ := natOf_ok hn hi
  split at h
  case isFalse => simp at h
  rename_i hlt
  obtain ⟨b, f, rfl, h2⟩ := faddrv_ok' (o2 := o2) h hx
  refine ⟨_, ?_, h2⟩
  simp [Instr.indexAt, run_asIntOf, run_underlying ht, Instr.sureAddr, run_sizeOf hs, hlt, add_mk]

theorem cellv_ok {c v : SV} {x : Value} (h : cellv c = some v) (hc : SR cx o c x) : SR cx o2 v x := by
  have : v = c ∧ owns c = false := by cases c <;> simp [cellv] at h <;> simp [h, owns]
  rw [this.1]
  exact SR.anyO this.2 hc

theorem fldv_ok {off : Nat} {sz : Option Nat} {x v : SV} {X : Value} {ty : TypeId} (h : fldv off sz x = some v) (hz : ldOf P ty = some sz) (hx : SR cx o x X) :
    ∃ cs V, X = .agg cs ∧ (part ty cs off).run P W = .ok V W ∧ SR cx o2 v V := by
  unfold fldv at h
  split at h
  · rename_i l
    simp only [SR] at hx
    obtain ⟨a, rfl, hx⟩ := hx
    have hl := PRs.length hx
    simp only [Array.length_toList] at hl
    refine ⟨a, ?_⟩
    cases sz with
    | none =>
      simp only [Option.map_eq_some_iff] at h
      obtain ⟨p, hp, rfl⟩ := h
      obtain ⟨y, hy, hy2⟩ := PRs.get off hx hp
      refine ⟨y, rfl, ?_, by simpa [SR] using hy2⟩
      have : a[off]? = some y := by simpa using hy
      simp [part, run_isAgg (ldOf_none hz), this]
    | some n =>
      obtain ⟨h1, h2, h3⟩ := ldOf_some hz
      simp only [Option.map_eq_some_iff] at h
      obtain ⟨l', hl', rfl⟩ := h
      obtain ⟨hle, rfl⟩ := sub_some hl'
      refine ⟨_, rfl, run_part h1 h2 (by simp) (by omega), ?_⟩
      simp only [asV, if_true, SR]
      exact ⟨_, rfl, by simpa using PRs.take n (PRs.drop off hx)⟩
  · rename_i l
    simp only [SR] at hx
    obtain ⟨a, rfl, hx⟩ := hx
    have hl := SRs.length hx
    simp only [Array.length_toList] at hl
    refine ⟨a, ?_⟩
    cases sz with
    | none =>
      simp only [Option.bind_eq_some_iff] at h
      obtain ⟨c, hc, h⟩ := h
      obtain ⟨y, hy, hy2⟩ := SRs.get off hx hc
      refine ⟨y, rfl, ?_, cellv_ok h hy2⟩
      have : a[off]? = some y := by simpa using hy
      simp [part, run_isAgg (ldOf_none hz), this]
    | some n =>
      obtain ⟨h1, h2, h3⟩ := ldOf_some hz
      simp only [Option.bind_eq_some_iff, Option.map_eq_some_iff] at h
      obtain ⟨l', hl', l2, hl2, rfl⟩ := h
      obtain ⟨hle, rfl⟩ := sub_some hl'
      refine ⟨_, rfl, run_part h1 h2 (by simp) (by omega), ?_⟩
      simp only [asV, if_true, SR]
      exact ⟨_, rfl, by simpa using SRs.plains (SRs.take n (SRs.drop off hx)) hl2⟩
  · simp at h

theorem fld_ok {t : TypeId} {f off : Nat} {ty : TypeId} {sz : Option Nat} {x v : SV} {X : Value} (h : fldv off sz x = some v) (hf : fldOf P t f = some (off, ty)) (hz : ldOf P ty = some sz) (hx : SR cx o x X) :
    ∃ V, (Instr.field t X f).run P W = .ok V W ∧ SR cx o2 v V := by
  obtain ⟨cs, V, rfl, h1, h2⟩ := fldv_ok (P := P) (W := W) (o2 := o2) h hz hx
  obtain ⟨fs, fl, hu, hfl, rfl, rfl⟩ := fldOf_ok hf
  exact ⟨V, by simp [Instr.field, run_underlying hu, hfl, asAgg, h1], h2⟩

theorem idxS_ok {t : TypeId} {x i v : SV} {X I : Value} (ht : P.underlying t = some .string)
    (h : (match x with | .p (.str s) => (natOf i).bind fun i => (s[i]?).map fun c => SV.p (.int .u8 c.toNat) | _ => none) = some v) (hx : SR cx o x X) (hi : SR cx o1 i I) :
    ∃ V, (Instr.index t X I).run P W = .ok V W ∧ SR cx o2 v V := by
  split at h
  · rename_i s
    simp only [Option.bind_eq_some_iff, Option.map_eq_some_iff] at h
    obtain ⟨n, hn, c, hc, rfl⟩ := h
    obtain ⟨k, rfl⟩ := natOf_ok hn hi
    simp only [SR, PR] at hx
    obtain ⟨b, rfl, rfl⟩ := hx
    have hc' : b[n]? = some c := by
      have h0 : n < b.data.toList.length := by
        rcases Nat.lt_or_ge n b.data.toList.length with h | h
        · exact h
        · simp [List.getElem?_eq_none h] at hc
      have h1 : n < b.size := by simpa using h0
      rw [getElem?_pos b n h1]
      rw [List.getElem?_eq_getElem h0] at hc
      simp only [Option.some.injEq] at hc ⊢
      rw [← hc]; rfl
    exact ⟨.int .u8 c.toNat, by simp [Instr.index, run_asIntOf, run_underlying ht, hc'], by simp [SR, PR]⟩
  · simp at h

theorem idxA_ok {t e : TypeId} {n s : Nat} {z : Option Nat} {x i v : SV} {X I : Value} (ht : P.underlying t = some (.array n e)) (hz : ldOf P e = some z) (hs : s = z.getD 1) (hsz : szOf P e = some s)
    (h : ((natOf i).bind fun i => if i < n then fldv (i * s) (if z.isSome then some s else none) x else none) = some v) (hx : SR cx o x X) (hi : SR cx o1 i I) :
    ∃ V, (Instr.index t X I).run P W = .ok V W ∧ SR cx o2 v V := by
  simp only [Option.bind_eq_some_iff] at h
  obtain ⟨m, hm, h⟩ := h
  obtain ⟨k, rfl⟩ := natOf_ok hm hi
  split at h
  case isFalse => simp at h
  rename_i hlt
  have hz' : (if z.isSome then some s else none) = z := by cases z <;> simp_all
  rw [hz'] at h
  obtain ⟨cs, V, rfl, h1, h2⟩ := fldv_ok (P := P) (W := W) (o2 := o2) h hz hx
  exact ⟨V, by simp [Instr.index, run_asIntOf, run_underlying ht, hlt, run_sizeOf hsz, h1], h2⟩

theorem ext_ok {x v : SV} {i : Nat} {X : Value} (h : extv x i = some v) (hx : SR cx o x X) : ∃ V, (Instr.extract X i).run P W = .ok V W ∧ SR cx o2 v V := by
  unfold extv at h
  split at h
  · rename_i vs
    simp only [Option.bind_eq_some_iff] at h
    obtain ⟨c, hc, h⟩ := h
    simp only [SR] at hx
    obtain ⟨a, rfl, hx⟩ := hx
    obtain ⟨y, hy, hy2⟩ := SRs.get i hx hc
    have : a[i]? = some y := by simpa using hy
    exact ⟨y, by simp [Instr.extract, this], cellv_ok h hy2⟩
  · simp at h

theorem len_ok {str : Bool} {x : SV} {n : Nat} {X : Value} {t : TypeId} (h : lenOf str x = some n) (ht : if str then P.underlying t = some .string else ∃ e, P.underlying t = some (.slice e)) (hx : SR cx o x X) (ty : TypeId) :
    (Builtin.len_ #[t] ty #[X]).run P W = .ok (.int .i64 n) W := by
  unfold lenOf at h
  split at h
  · rename_i s
    simp at h ht; subst h
    simp only [SR, PR] at hx
    obtain ⟨b, rfl, rfl⟩ := hx
    simp [Builtin.len_, run_underlying ht, goInt]
  all_goals simp at h
  all_goals (subst h; simp at ht; obtain ⟨e, ht⟩ := ht; simp only [SR, PR, LentR, AlR] at hx)
  · subst hx; simp [Builtin.len_, run_underlying ht, goInt]
  · obtain ⟨a, n, c, rfl, h1, _⟩ := hx; simp [Builtin.len_, run_underlying ht, goInt, h1]
  · obtain ⟨a, n, c, rfl, h1, _⟩ := hx; simp [Builtin.len_, run_underlying ht, goInt, h1]
  · obtain ⟨_, a, m, c, b, c', _, _, _, _, rfl, _⟩ := hx; simp [Builtin.len_, run_underlying ht, goInt]
end
end Go.VM

/-
V: slice expressions, conversions, least and greatest.
-/
namespace Go.VM
open Go
set_option linter.unusedVariables false
set_option linter.unusedSimpArgs false

section
variable {P : Program} {W : World} {cx : Cx} {o o1 o2 : List Nat → Option Owner}

/-- optional bounds, in the machine's words and in the model's -/
def OptR (cx : Cx) : Option SV → Option Value → Prop
  | none, none => True
  | some v, some x => ∃ o, SR cx o v x
  | _, _ => False

theorem run_sliceBound {k : IntKind} {i y : Nat} {code : BoundsCode} (h : i ≤ y) : (Instr.sliceBound (.int k (i : Int)) y code).run P W = .ok i W := by
  simp [Instr.sliceBound, run_asIntOf, h]

theorem bounds_ok {n cap : Nat} {lo hi : Option SV} {L H : Option Value} {b : Nat × Nat} {isS : Bool} (h : bounds n lo hi = some b) (hl : OptR cx lo L) (hh : OptR cx hi H) (hc : n ≤ cap) :
    (Instr.sliceBounds isS n cap L H none).run P W = .ok (b.1, b.2, cap) W ∧ b.1 ≤ b.2 ∧ b.2 ≤ n := by
  simp only [bounds, Option.bind_eq_some_iff] at h
  obtain ⟨hN, e1, lN, e2, h⟩ := h
  split at h
  case isFalse => simp at h
  rename_i hle
  simp at h; subst h
  refine ⟨?_, hle⟩
  cases hi with
  | none =>
    cases H with
    | some _ => simp [OptR] at hh
    | none =>
      simp at e1; subst e1
      cases lo with
      | none =>
        cases L with
        | some _ => simp [OptR] at hl
        | none => simp at e2; subst e2; simp [Instr.sliceBounds]
      | some lv =>
        cases L with
        | none => simp [OptR] at hl
        | some lx =>
          obtain ⟨o, hl⟩ := hl
          obtain ⟨k, rfl⟩ := natOf_ok e2 hl
          simp only [Instr.sliceBounds, Sem.run_bind, Sem.run_pure, Result.andThen_ok, run_sliceBound hle.1]
  | some hv =>
    cases H with
    | none => simp [OptR] at hh
    | some hx =>
      obtain ⟨o, hh⟩ := hh
      obtain ⟨k, rfl⟩ := natOf_ok e1 hh
      cases lo with
      | none =>
        cases L with
        | some _ => simp [OptR] at hl
        | none =>
          simp at e2; subst e2
          simp only [Instr.sliceBounds, Sem.run_bind, Sem.run_pure, Result.andThen_ok, run_sliceBound (Nat.le_trans hle.2 hc)]
      | some lv =>
        cases L with
        | none => simp [OptR] at hl
        | some lx =>
          obtain ⟨o, hl⟩ := hl
          obtain ⟨k', rfl⟩ := natOf_ok e2 hl
          simp only [Instr.sliceBounds, Sem.run_bind, Sem.run_pure, Result.andThen_ok, run_sliceBound (Nat.le_trans hle.2 hc), run_sliceBound hle.1]

theorem drop_take_eq {α : Type} (l : List α) (a b : Nat) : (l.take b).drop a = (l.drop a).take (b - a) := by rw [List.drop_take]

theorem slc_str_ok {t : TypeId} {x v : SV} {X : Value} {lo hi : Option SV} {L H : Option Value} {sz : Nat} (h : slcv true sz x lo hi none = some v) (ht : P.underlying t = some .string) (hx : SR cx o x X) (hl : OptR cx lo L) (hh : OptR cx hi H) :
    ∃ V, (Instr.sliceAt t X L H none).run P W = .ok V W ∧ SR cx o2 v V := by
  simp only [slcv, if_true] at h
  split at h
  · rename_i s heq
    simp only [Option.map_eq_some_iff] at h
    obtain ⟨b, hb, rfl⟩ := h
    simp only [SR, PR] at hx
    obtain ⟨B, rfl, rfl⟩ := hx
    have hs : B.data.toList.length = B.size := by simp
    rw [hs] at hb
    obtain ⟨h1, h2, h3⟩ := bounds_ok (P := P) (W := W) (isS := false) (cap := B.size) hb hl hh (Nat.le_refl _)
    refine ⟨.string (B.extract b.1 b.2), ?_, ?_⟩
    · simp only [Instr.sliceAt, Sem.run_bind, run_underlying ht, Result.andThen_ok, Instr.slice, Option.isSome_none, Bool.false_eq_true, if_false, h1, Sem.run_pure]
    · simp only [SR, PR]
      refine ⟨_, rfl, ?_⟩
      simp [ByteArray.data_extract, List.extract_eq_take_drop, List.drop_take]
  · simp at h

/-- what a slice expression over a slice comes to -/
theorem run_slice {t e : TypeId} {s n cap : Nat} {a : Option Addr} {L H : Option Value} {b : Nat × Nat} (ht : P.underlying t = some (.slice e)) (hs : szOf P e = some s)
    (hb : (Instr.sliceBounds true n cap L H none).run P W = .ok (b.1, b.2, cap) W) :
    (Instr.sliceAt t (.slice a n cap) L H none).run P W = .ok (.slice (if cap = b.1 then a else a.map (·.add (b.1 * s))) (b.2 - b.1) (cap - b.1)) W := by
  simp only [Instr.sliceAt, Sem.run_bind, run_underlying ht, Result.andThen_ok, Instr.slice, hb, run_sizeOf hs, Sem.run_pure]

theorem add_spot {a : Addr} (h : a.spot = none) (j : Nat) : (a.add j).spot = none ∧ (a.add j).block = a.block ∧ (a.add j).off = a.off + j := by rw [add_of h]; exact ⟨rfl, rfl, rfl⟩

theorem slc_ok {t e : TypeId} {x v : SV} {X : Value} {lo hi : Option SV} {L H : Option Value} {sz : Nat} (h : slcv false sz x lo hi none = some v) (ht : P.underlying t = some (.slice e)) (hs : szOf P e = some sz) (hx : SR cx o x X)
    (hl : OptR cx lo L) (hh : OptR cx hi H) : ∃ V, (Instr.sliceAt t X L H none).run P W = .ok V W ∧ SR cx o2 v V := by
  simp only [slcv, Bool.false_eq_true, if_false] at h
  split at h
  · simp only [Option.map_eq_some_iff] at h
    obtain ⟨b, hb, rfl⟩ := h
    simp only [SR, PR] at hx; subst hx
    obtain ⟨h1, h2, h3⟩ := bounds_ok (P := P) (W := W) (isS := true) (cap := 0) hb hl hh (Nat.le_refl _)
    refine ⟨_, run_slice ht hs h1, ?_⟩
    have : b.1 = 0 := by omega
    have : b.2 = 0 := by omega
    simp [SR, PR, *]
  · rename_i s es
    split at h
    case isFalse => simp at h
    rename_i hss; subst hss
    simp only [Option.map_eq_some_iff] at h
    obtain ⟨b, hb, rfl⟩ := h
    simp only [SR, PR] at hx
    obtain ⟨a, n, cap, rfl, e1, e2, e3, e4⟩ := hx
    rw [e1] at hb
    obtain ⟨h1, h2, h3⟩ := bounds_ok (P := P) (W := W) (isS := true) (cap := cap) hb hl hh e2
    refine ⟨_, run_slice ht hs h1, ?_⟩
    simp only [SR, PR]
    by_cases hc : cap = b.1
    · rw [if_pos hc]
      exact ⟨a, _, _, rfl, by simp; omega, by omega, fun hh => e3 (by omega), .inl (by omega)⟩
    · rw [if_neg hc]
      by_cases hn0 : n = 0
      · exact ⟨a.add (b.1 * s), _, _, rfl, by simp; omega, by omega, fun hh => by omega, .inl (by omega)⟩
      have hsp := add_spot (e3 hn0) (b.1 * s)
      refine ⟨a.add (b.1 * s), _, _, rfl, by simp; omega, by omega, fun _ => hsp.1, ?_⟩
      rcases e4 with e4 | ⟨p1, p2, c, p3, p4⟩
      · left; omega
      right
      rw [hsp.2.1, hsp.2.2]
      refine ⟨p1, (p2.take b.2).drop b.1, c, p3, ?_⟩
      have := PRss.drop b.1 (p2.take b.2) (PRss.take b.2 p4)
      rwa [List.drop_drop] at this
  · rename_i s es
    split at h
    case isFalse => simp at h
    rename_i hss; subst hss
    simp only [Option.map_eq_some_iff] at h
    obtain ⟨b, hb, rfl⟩ := h
    simp only [SR, LentR] at hx
    obtain ⟨a, n, cap, rfl, e1, e2, e3, e4⟩ := hx
    rw [e1] at hb
    obtain ⟨h1, h2, h3⟩ := bounds_ok (P := P) (W := W) (isS := true) (cap := cap) hb hl hh e2
    refine ⟨_, run_slice ht hs h1, ?_⟩
    simp only [SR, LentR]
    by_cases hc : cap = b.1
    · rw [if_pos hc]
      exact ⟨a, _, _, rfl, by simp; omega, by omega, e3, .inl (by omega)⟩
    · rw [if_neg hc]
      have hsp := add_spot e3 (b.1 * s)
      refine ⟨a.add (b.1 * s), _, _, rfl, by simp; omega, by omega, hsp.1, ?_⟩
      rcases e4 with e4 | ⟨p2, c, p3, p4⟩
      · left; omega
      right
      rw [hsp.2.1, hsp.2.2]
      refine ⟨(p2.take b.2).drop b.1, c, p3, ?_⟩
      have := PRss.drop b.1 (p2.take b.2) (PRss.take b.2 p4)
      rwa [List.drop_drop] at this
  · rename_i pl s l n
    split at h
    case isFalse => simp at h
    rename_i hss; subst hss
    simp only [Option.map_eq_some_iff] at h
    obtain ⟨b, hb, rfl⟩ := h
    simp only [SR, AlR] at hx
    obtain ⟨hrow, a, m, cap, bb, cap', hhd, ha, q3, q4, rfl, q5, q6, q7⟩ := hx
    obtain ⟨h1, h2, h3⟩ := bounds_ok (P := P) (W := W) (isS := true) (cap := cap') hb hl hh q5
    refine ⟨_, run_slice ht hs h1, ?_⟩
    simp only [SR, AlR]
    by_cases hc : cap' = b.1
    · rw [if_pos hc]
      exact ⟨hrow, a, m, cap, bb, _, hhd, ha, by omega, q4, rfl, by omega, q6, .inl (by omega)⟩
    · rw [if_neg hc]
      have hsp := add_spot q6 (b.1 * s)
      refine ⟨hrow, a, m, cap, bb.add (b.1 * s), _, hhd, ha, by omega, q4, rfl, by omega, hsp.1, ?_⟩
      rcases q7 with q7 | ⟨q8, q9, q10⟩
      · left; omega
      right
      rw [hsp.2.1, hsp.2.2]
      refine ⟨q8, ?_, by omega⟩
      rw [q9, Nat.add_mul, Nat.add_assoc]
  · simp at h

/-- x[0:0:0] -/
theorem slc0_ok {t e : TypeId} {x v m : SV} {X M : Value} {lo hi : Option SV} {L H : Option Value} {sz : Nat} (h : slcv false sz x lo hi (some m) = some v) (ht : P.underlying t = some (.slice e)) (hs : szOf P e = some sz)
    (hx : SR cx o x X) (hm : SR cx o1 m M) (hl : OptR cx lo L) (hh : OptR cx hi H) : ∃ V, (Instr.sliceAt t X L H (some M)).run P W = .ok V W ∧ SR cx o2 v V := by
  simp only [slcv, Bool.false_eq_true, if_false] at h
  split at h
  · simp at h
  rename_i hhi
  have key : ∀ (hn : natOf m = some 0) (b : Nat × Nat) (hb : bounds 0 lo hi = some b) (a : Option Addr) (n cap : Nat), (Instr.sliceAt t (.slice a n cap) L H (some M)).run P W = .ok (.slice a 0 0) W := by
    intro hn b hb a n cap
    obtain ⟨k, rfl⟩ := natOf_ok hn hm
    have hb' := hb
    simp only [bounds, Option.bind_eq_some_iff] at hb'
    obtain ⟨hN, e1, lN, e2, hb'⟩ := hb'
    split at hb'
    case isFalse => simp at hb'
    rename_i hle
    have hh0 : hN = 0 := by omega
    have hl0 : lN = 0 := by omega
    subst hh0 hl0
    have hsb : (Instr.sliceBounds true n cap L H (some (.int k ((0 : Nat) : Int)))).run P W = .ok (0, 0, 0) W := by
      cases hi with
      | none => simp at hhi
      | some hv =>
        cases H with
        | none => simp [OptR] at hh
        | some hx =>
          obtain ⟨o, hh⟩ := hh
          obtain ⟨k', rfl⟩ := natOf_ok e1 hh
          cases lo with
          | none =>
            cases L with
            | some _ => simp [OptR] at hl
            | none => simp only [Instr.sliceBounds, Sem.run_bind, Sem.run_pure, Result.andThen_ok, run_sliceBound (Nat.zero_le _), if_true]
          | some lv =>
            cases L with
            | none => simp [OptR] at hl
            | some lx =>
              obtain ⟨o, hl⟩ := hl
              obtain ⟨k', rfl⟩ := natOf_ok e2 hl
              simp only [Instr.sliceBounds, Sem.run_bind, Sem.run_pure, Result.andThen_ok, run_sliceBound (Nat.zero_le _), if_true]
    simp only [Instr.sliceAt, Sem.run_bind, run_underlying ht, Result.andThen_ok, Instr.slice, hsb, run_sizeOf hs, Sem.run_pure, if_true]
  split at h
  · rename_i hn
    simp only [Option.map_eq_some_iff] at h
    obtain ⟨b, hb, rfl⟩ := h
    simp only [SR, PR] at hx; subst hx
    exact ⟨_, key hn b hb _ _ _, by simp [SR, PR]⟩
  · rename_i hn hne
    split at h
    case isFalse => simp at h
    rename_i hsl
    simp only [Option.map_eq_some_iff] at h
    obtain ⟨b, hb, rfl⟩ := h
    have hsl0 : ∀ u : SV, isSliceN u = true → isSlice u = true := by
      intro u hu
      unfold isSliceN at hu
      split at hu <;> first | rfl | simp at hu
    obtain ⟨a, n, c, rfl, ha⟩ := SR_slice hx (.inr (hsl0 _ hsl))
    refine ⟨_, key hn b hb _ _ _, ?_⟩
    have hsp : ∃ ad, a = some ad ∧ ad.spot = none := by
      unfold isSliceN at hsl
      split at hsl
      · simp only [SR, PR] at hx; obtain ⟨a', _, _, hx, hl, _, h3, _⟩ := hx; simp at hx
        refine ⟨a', hx.1, h3 ?_⟩
        intro h0
        rw [h0] at hl
        have := List.length_eq_zero_iff.1 hl
        rw [this] at hsl; simp at hsl
      · simp only [SR, LentR] at hx; obtain ⟨a', _, _, hx, _, _, h3, _⟩ := hx; simp at hx; exact ⟨a', hx.1, h3⟩
      · simp only [SR, AlR] at hx; obtain ⟨_, _, _, _, b', _, _, _, _, _, hx, _, h3, _⟩ := hx; simp at hx; exact ⟨b', hx.1, h3⟩
      · simp at hsl
    obtain ⟨ad, rfl, had⟩ := hsp
    simp only [SR, OwnR]
    exact ⟨ad, 0, 0, rfl, rfl, Nat.le_refl _, had, by simp [lensAre], .inl rfl⟩
  · simp at h

/-- values of operands, whoever owns them -/
def AnyRs (cx : Cx) : List SV → List Value → Prop
  | [], [] => True
  | v :: vs, x :: xs => (∃ o, SR cx o v x) ∧ AnyRs cx vs xs
  | _, _ => False

theorem mnmxR_ok {mx : Bool} {k : IntKind} : ∀ {l : List SV} {xs : List Value} {a : Int} {v : SV}, mnmxR mx k a l = some v → AnyRs cx l xs →
    ∃ V, (xs.foldlM (if mx then Builtin.max2 else Builtin.min2) (.int k a)).run P W = .ok V W ∧ SR cx o2 v V
  | [], [], a, v, h, _ => by simp [mnmxR] at h; subst h; exact ⟨.int k a, by simp, by simp [SR, PR]⟩
  | s :: l, x :: xs, a, v, h, hx => by
    simp only [AnyRs] at hx
    unfold mnmxR at h
    split at h
    · simp_all
    · rename_i k' b r heq
      simp only [List.cons.injEq] at heq
      obtain ⟨rfl, rfl⟩ := heq
      obtain ⟨o, h1⟩ := hx.1
      simp only [SR, PR] at h1
      subst h1
      obtain ⟨V, hV⟩ := mnmxR_ok h hx.2
      refine ⟨V, ?_, hV.2⟩
      rw [← hV.1]
      cases mx <;> simp [Builtin.max2, Builtin.min2]
    · simp at h
  | [], _ :: _, _, _, _, hx => by simp [AnyRs] at hx
  | _ :: _, [], _, _, _, hx => by simp [AnyRs] at hx

theorem mnmx_ok {mx : Bool} {l : List SV} {xs : Array Value} {v : SV} (h : mnmxv mx l = some v) (hx : AnyRs cx l xs.toList) (ts : Array TypeId) (t : TypeId) :
    ∃ V, ((if mx then Builtin.max_ ts t xs else Builtin.min_ ts t xs) : Sem Value).run P W = .ok V W ∧ SR cx o2 v V := by
  unfold mnmxv at h
  split at h
  · rename_i k a r
    cases hxs : xs.toList with
    | nil => rw [hxs] at hx; simp [AnyRs] at hx
    | cons y ys =>
      rw [hxs] at hx
      simp only [AnyRs] at hx
      obtain ⟨⟨o, h1⟩, h2⟩ := hx
      simp only [SR, PR] at h1
      subst h1
      obtain ⟨V, hV⟩ := mnmxR_ok (P := P) (W := W) (o2 := o2) h h2
      refine ⟨V, ?_, hV.2⟩
      rw [← hV.1]
      cases mx <;> simp [Builtin.max_, Builtin.min_, hxs]
  · simp at h

theorem bytesOf_ok {g : Gh} : ∀ {es : List (List PV)} {l : List UInt8} {vs : List Value}, bytesOf es = some l → PRss g es vs → lensAre 1 es → vs.length = es.length →
    ∃ ns : List Int, vs = ns.map (.int .u8) ∧ ns.map (fun n => UInt8.ofNat n.toNat) = l
  | [], l, vs, h, _, _, hl => by simp [bytesOf] at h; subst h; simp at hl; subst hl; exact ⟨[], by simp⟩
  | e :: es, l, vs, h, hp, hn, hl => by
    unfold bytesOf at h
    split at h
    · simp_all
    · rename_i n r heq
      simp only [List.cons.injEq] at heq
      obtain ⟨rfl, rfl⟩ := heq
      simp only [Option.map_eq_some_iff] at h
      obtain ⟨l', h1, rfl⟩ := h
      simp only [PRss, lensAre, lenL] at hp hn
      cases vs with
      | nil => simp at hl
      | cons v vs =>
        simp only [List.take_succ_cons, List.take_zero, PRs, PR, and_true, List.drop_succ_cons, List.drop_zero] at hp
        obtain ⟨ns, h2, h3⟩ := bytesOf_ok h1 hp.2 hn.2 (by simpa using hl)
        exact ⟨n :: ns, by simp [hp.1, h2], by simp [h3]⟩
    · simp at h

theorem run_bytesToString {W : World} {a : Addr} {n cap : Nat} {ns : List Int} (hn : ns.length = n) (h : ∀ j v, (ns.map (Value.int .u8))[j]? = some v → W.cell? (a.add j) = some v) :
    ∃ s : ByteArray, (Conv.bytesToString (.slice (some a) n cap)).run P W = .ok (.string s) W ∧ s.data.toList = ns.map (fun n => UInt8.ofNat n.toNat) := by
  have hl := run_loadCells_list (P := P) W a (ns.map (Value.int .u8)) h
  rw [List.length_map, hn] at hl
  simp only [Conv.bytesToString, Sem.run_bind, hl, Result.andThen_ok]
  rw [← Array.forIn_toList]
  have key : ∀ (F : Value → ByteArray → Sem (ForInStep ByteArray)) (hF : ∀ n s, F (.int .u8 n) s = pure (ForInStep.yield (s.push (UInt8.ofNat n.toNat)))) (l : List Int) (s0 : ByteArray),
      ∃ s : ByteArray, (forIn (l.map (Value.int .u8)) s0 F).run P W = .ok s W ∧ s.data.toList = s0.data.toList ++ l.map (fun n => UInt8.ofNat n.toNat) := by
    intro F hF l
    induction l with
    | nil => intro s0; exact ⟨s0, by simp, by simp⟩
    | cons n l ih =>
      intro s0
      obtain ⟨s, h1, h2⟩ := ih (s0.push (UInt8.ofNat n.toNat))
      refine ⟨s, ?_, ?_⟩
      · rw [← h1]; simp [hF]
      · rw [h2]; simp [ByteArray.push]
  generalize hF : (fun (c : Value) (s : ByteArray) => (_ : Sem (ForInStep ByteArray))) = F
  obtain ⟨s, h1, h2⟩ := key F (fun n s => by rw [← hF]) ns ByteArray.empty
  refine ⟨s, ?_, by simpa using h2⟩
  rw [List.toList_toArray, h1]
  rfl
end
end Go.VM

/-
V: how the relation stays while memory grows, is written, or changes hands.
-/
namespace Go.VM
open Go
set_option linter.unusedVariables false
set_option linter.unusedSimpArgs false

structure Fr (K : Option Owner → Prop) (cx cx' : Cx) : Prop where
  gle : GLe cx.g cx'.g
  blk : ∀ r b, cx.g.blk r = some b → cx'.g.blk r = some b
  keep : ∀ b, b < cx.W.heap.size → K (cx.g.own b) → cx'.W.heap[b]? = cx.W.heap[b]? ∧ cx'.g.own b = cx.g.own b
  none : K none

theorem lt_of_some {α : Type} {a : Array α} {i : Nat} {x : α} (h : a[i]? = some x) : i < a.size := by
  rcases Nat.lt_or_ge i a.size with h' | h'
  · exact h'
  · simp [Array.getElem?_eq_none h'] at h

mutual
/-- what lies in memory, where nothing that it leads to has changed -/
theorem SR.frame {K : Option Owner → Prop} {cx cx' : Cx} (h : Fr K cx cx') (hd : ∀ pl x, hdr cx pl = some x → hdr cx' pl = some x) : ∀ {v : SV} {x : Value} {o : List Nat → Option Owner}, (∀ π, K (o π)) → SR cx o v x → SR cx' o v x
  | .p v, x, o, ho, e => by simp only [SR] at e ⊢; exact PR.mono h.gle _ _ e
  | .pagg cs, x, o, ho, e => by simp only [SR] at e ⊢; obtain ⟨a, h1, h2⟩ := e; exact ⟨a, h1, PRs.mono h.gle _ _ h2⟩
  | .own s es, x, o, ho, e => by
    simp only [SR] at e ⊢
    obtain ⟨a, n, cap, h1, h2, h3, h4, h5, h6⟩ := e
    refine ⟨a, n, cap, h1, h2, h3, h4, h5, ?_⟩
    rcases h6 with h6 | ⟨c, T, fr, e1, e2, e3, e4, e5⟩
    · exact .inl h6
    · right
      obtain ⟨k1, k2⟩ := h.keep _ (lt_of_some e1) (by rw [e3]; exact ho [])
      exact ⟨c, T, fr, by rw [k1]; exact e1, e2, by rw [k2]; exact e3, e4, PRss.mono h.gle _ _ e5⟩
  | .lent s es, x, o, ho, e => by
    simp only [SR] at e ⊢
    obtain ⟨a, n, cap, h1, h2, h3, h4, h6⟩ := e
    refine ⟨a, n, cap, h1, h2, h3, h4, ?_⟩
    rcases h6 with h6 | ⟨e1, c, e2, e3⟩
    · exact .inl h6
    · exact .inr ⟨e1, c, h.gle.stab _ _ e2, PRss.mono h.gle _ _ e3⟩
  | .al pl s lo n, x, o, ho, e => by
    simp only [SR] at e ⊢
    obtain ⟨h0, a, m, cap, b, cap', h1, h2⟩ := e
    exact ⟨h0, a, m, cap, b, cap', hd _ _ h1, h2⟩
  | .ptr pl, x, o, ho, e => by
    simp only [SR, PtrR] at e ⊢
    split at e
    · next hrow => obtain ⟨h1, b, h2, h3⟩ := e; exact ⟨h1, b, h.blk _ _ h2, h3⟩
    · next s e' o' hrow => obtain ⟨a, m, cap, h1, h2⟩ := e; exact ⟨a, m, cap, hd _ _ h1, h2⟩
  | .cptr cs, x, o, ho, e => by
    simp only [SR] at e ⊢
    obtain ⟨b, off, c, h1, h2, h3⟩ := e
    exact ⟨b, off, c, h1, h.gle.stab _ _ h2, PRs.mono h.gle _ _ h3⟩
  | .nilp, x, o, ho, e => by simpa [SR] using e
  | .fn f caps, x, o, ho, e => by
    simp only [SR] at e ⊢
    obtain ⟨a, h1, h2⟩ := e
    exact ⟨a, h1, SRs.frame h hd (fun _ => h.none) h2⟩
  | .nilf, x, o, ho, e => by simpa [SR] using e
  | .undef, x, o, ho, e => by simp [SR]
  | .agg cs, x, o, ho, e => by
    simp only [SR] at e ⊢
    obtain ⟨a, h1, h2⟩ := e
    exact ⟨a, h1, SRs.frame h hd ho h2⟩
  | .tup cs, x, o, ho, e => by
    simp only [SR] at e ⊢
    obtain ⟨a, h1, h2⟩ := e
    exact ⟨a, h1, SRs.frame h hd ho h2⟩
theorem SRs.frame {K : Option Owner → Prop} {cx cx' : Cx} (h : Fr K cx cx') (hd : ∀ pl x, hdr cx pl = some x → hdr cx' pl = some x) : ∀ {i : Nat} {v : List SV} {x : List Value} {o : List Nat → Option Owner}, (∀ π, K (o π)) → SRs cx o i v x → SRs cx' o i v x
  | _, [], [], _, _, _ => by simp [SRs]
  | i, v :: vs, x :: xs, o, ho, e => by
    simp only [SRs] at e ⊢
    exact ⟨SR.frame h hd (fun π => ho _) e.1, SRs.frame h hd ho e.2⟩
  | _, [], _ :: _, _, _, e => by simp [SRs] at e
  | _, _ :: _, [], _, _, e => by simp [SRs] at e
end

/-- cells of an object lead to no slot and to no row: headers play no part -/
theorem capsM {cx cx' : Cx} (hb : ∀ r b, cx.g.blk r = some b → cx'.g.blk r = some b) : ∀ {i : Nat} {v : List SV} {x : List Value} {o o' : List Nat → Option Owner}, okMem.okCaps v = true → SRs cx o i v x → SRs cx' o' i v x
  | _, [], [], _, _, _, _ => by simp [SRs]
  | i, v :: vs, x :: xs, o, o', hk, e => by
    cases v <;> simp only [okMem.okCaps, Bool.and_eq_true, Option.isNone_iff_eq_none, Bool.not_eq_true', reduceCtorEq, Bool.false_eq_true] at hk
    obtain ⟨⟨h1, h2⟩, h3⟩ := hk
    simp only [SRs, SR, PtrR, h1] at e ⊢
    obtain ⟨⟨e1, b, e2, e3⟩, e4⟩ := e
    exact ⟨⟨e1, b, hb _ _ e2, e3⟩, capsM hb h3 e4⟩
  | _, [], _ :: _, _, _, _, e => by simp [SRs] at e
  | _, _ :: _, [], _, _, _, e => by simp [SRs] at e

theorem SR.frameM {K : Option Owner → Prop} {cx cx' : Cx} (h : Fr K cx cx') {v : SV} {x : Value} {o : List Nat → Option Owner} (ho : ∀ π, K (o π)) (hm : okMem v = true) (e : SR cx o v x) : SR cx' o v x := by
  cases v with
  | p v => simp only [SR] at e ⊢; exact PR.mono h.gle _ _ e
  | pagg cs => simp [okMem] at hm
  | own s es =>
    simp only [SR] at e ⊢
    obtain ⟨a, n, cap, h1, h2, h3, h4, h5, h6⟩ := e
    refine ⟨a, n, cap, h1, h2, h3, h4, h5, ?_⟩
    rcases h6 with h6 | ⟨c, T, fr, e1, e2, e3, e4, e5⟩
    · exact .inl h6
    · right
      obtain ⟨k1, k2⟩ := h.keep _ (lt_of_some e1) (by rw [e3]; exact ho [])
      exact ⟨c, T, fr, by rw [k1]; exact e1, e2, by rw [k2]; exact e3, e4, PRss.mono h.gle _ _ e5⟩
  | lent s es =>
    simp only [SR] at e ⊢
    obtain ⟨a, n, cap, h1, h2, h3, h4, h6⟩ := e
    refine ⟨a, n, cap, h1, h2, h3, h4, ?_⟩
    rcases h6 with h6 | ⟨e1, c, e2, e3⟩
    · exact .inl h6
    · exact .inr ⟨e1, c, h.gle.stab _ _ e2, PRss.mono h.gle _ _ e3⟩
  | al pl s lo n => simp [okMem] at hm
  | ptr pl =>
    simp only [okMem, Bool.and_eq_true, Option.isNone_iff_eq_none, Bool.not_eq_true'] at hm
    simp only [SR, PtrR, hm.1] at e ⊢
    obtain ⟨h1, b, h2, h3⟩ := e
    exact ⟨h1, b, h.blk _ _ h2, h3⟩
  | cptr cs => simp [okMem] at hm
  | nilp => simpa [SR] using e
  | fn f caps =>
    simp only [okMem] at hm
    simp only [SR] at e ⊢
    obtain ⟨a, h1, h2⟩ := e
    exact ⟨a, h1, capsM h.blk hm h2⟩
  | nilf => simpa [SR] using e
  | undef => simp [SR]
  | agg cs => simp [okMem] at hm
  | tup cs => simp [okMem] at hm

theorem SRs.frameM {K : Option Owner → Prop} {cx cx' : Cx} (h : Fr K cx cx') : ∀ {i : Nat} {v : List SV} {x : List Value} {o : List Nat → Option Owner}, (∀ π, K (o π)) → v.all okMem = true → SRs cx o i v x → SRs cx' o i v x
  | _, [], [], _, _, _, _ => by simp [SRs]
  | i, v :: vs, x :: xs, o, ho, hm, e => by
    simp only [SRs, List.all_cons, Bool.and_eq_true] at e hm ⊢
    exact ⟨SR.frameM h (fun π => ho _) hm.1 e.1, SRs.frameM h ho hm.2 e.2⟩
  | _, [], _ :: _, _, _, _, e => by simp [SRs] at e
  | _, _ :: _, [], _, _, _, e => by simp [SRs] at e

/-- an object's cells, where its own block and what its cells own are as they were -/
theorem ObR.frame {K : Option Owner → Prop} {cx cx' : Cx} {ba : Ba} {r : Root} {ob : Obj} (h : Fr K cx cx') (ho : ∀ π, K (some (.cell r π))) (hr : K (some (.obj r))) (e : ObR cx ba r ob) : ObR cx' ba r ob := by
  obtain ⟨b, c, T, fr, h1, h2, h3, h4, h5, h6⟩ := e
  have hk : K (cx.g.own b) := by
    rw [h4]; unfold ownerOf; split
    · exact hr
    · exact h.none
  obtain ⟨k1, k2⟩ := h.keep _ (lt_of_some h2) hk
  refine ⟨b, c, T, fr, h.blk _ _ h1, by rw [k1]; exact h2, h3, by rw [k2]; exact h4, SRs.frameM h (fun π => ?_) (okAt_all h6) h5, h6⟩
  unfold ownerOf
  split
  · exact ho π
  · exact h.none

/-- headers, where the blocks of the objects are as they were -/
theorem hdr.frame {K : Option Owner → Prop} {ba : Ba} {σ : St} {g g' : Gh} {tmps : Array Value} {W W' : World} (hr : Rel ba σ g tmps W) (h : Fr K ⟨g, W, tmps, σ.env⟩ ⟨g', W', tmps, σ.env⟩)
    (hk : ∀ r b, g.blk r = some b → b < W.heap.size → W'.heap[b]? = W.heap[b]?) : ∀ pl x, hdr ⟨g, W, tmps, σ.env⟩ pl = some x → hdr ⟨g', W', tmps, σ.env⟩ pl = some x := by
  intro pl x e
  cases hroot : pl.root with
  | sl k => simp only [hdr, hroot] at e ⊢; exact e
  | hp i | st d i =>
    all_goals
      simp only [hdr, hroot, Option.bind_eq_some_iff] at e ⊢
      obtain ⟨b, h1, h2⟩ := e
      refine ⟨b, h.blk _ _ h1, ?_⟩
      have hlt : b < W.heap.size := by
        unfold World.cell? at h2
        split at h2
        · next c _ _ hh => exact lt_of_some hh
        · simp at h2
      simp only [World.cell?] at h2 ⊢
      rw [hk _ _ h1 hlt]
      exact h2

/-- memory grows by a block that is somebody's who had none -/
def Gh.grow (g : Gh) (b : Nat) (o : Option Owner) : Gh := { g with own := fun k => if k = b then o else g.own k }

def World.push (W : World) (c : Array Value) (T : TypeId) (fr : Nat × Nat) : World := { W with heap := W.heap.push (.cells c T fr) }

theorem push_old (W : World) (c : Array Value) (T : TypeId) (fr : Nat × Nat) {b : Nat} (h : b < W.heap.size) : (World.push W c T fr).heap[b]? = W.heap[b]? := by
  show (W.heap.push _)[b]? = _
  rw [Array.getElem?_push, if_neg (by omega)]
theorem push_new (W : World) (c : Array Value) (T : TypeId) (fr : Nat × Nat) : (World.push W c T fr).heap[W.heap.size]? = some (.cells c T fr) := by
  show (W.heap.push _)[W.heap.size]? = _
  simp
theorem push_size (W : World) (c : Array Value) (T : TypeId) (fr : Nat × Nat) : (World.push W c T fr).heap.size = W.heap.size + 1 := by
  show (W.heap.push _).size = _
  simp

section
variable {P : Program} {ba : Ba} {σ : St} {g : Gh} {tmps : Array Value} {W : World}

theorem fr_push (c : Array Value) (T : TypeId) (fr : Nat × Nat) (o : Option Owner) (env : List (Nat × SV)) : Fr (fun _ => True) ⟨g, W, tmps, env⟩ ⟨g.grow W.heap.size o, World.push W c T fr, tmps, env⟩ where
  gle := ⟨fun _ _ h => h, fun _ h => h⟩
  blk _ _ h := h
  keep b hb _ := ⟨push_old W c T fr hb, by simp only [Gh.grow]; rw [if_neg (by simp at hb; omega)]⟩
  none := trivial

theorem cellsAt_of_heap {W W' : World} {b : Nat} (h : W'.heap[b]? = W.heap[b]?) : cellsAt W' b = cellsAt W b := by simp [cellsAt, h]
theorem cellsAt_lt {W : World} {b : Nat} {c : Array Value} (h : cellsAt W b = some c) : b < W.heap.size := by
  obtain ⟨T, fr, h⟩ := cellsAt_iff.1 h
  exact lt_of_some h

theorem Rel.push (hr : Rel ba σ g tmps W) (c : Array Value) (T : TypeId) (fr : Nat × Nat) (o : Option Owner) : Rel ba σ (g.grow W.heap.size o) tmps (World.push W c T fr) where
  env k := SR.frame (fr_push c T fr o σ.env) (hdr.frame hr (fr_push c T fr o σ.env) fun r b _ hb => push_old W c T fr hb) (fun _ => trivial) (hr.env k)
  mem r ob hs ho hne := ObR.frame (fr_push c T fr o σ.env) (fun _ => trivial) trivial (hr.mem r ob hs ho hne)
  stab b c' h := by
    obtain ⟨h1, h2⟩ := hr.stab b c' h
    have hlt := cellsAt_lt h2
    exact ⟨by simp only [Gh.grow]; rw [if_neg (by omega)]; exact h1, by rw [cellsAt_of_heap (push_old W c T fr hlt)]; exact h2⟩
  alive b hb := by
    rw [push_size] at hb
    obtain ⟨h1, h2⟩ := hr.alive b (by omega)
    exact ⟨by simp only [Gh.grow]; rw [if_neg (by omega)]; exact h1, h2⟩
  perm := hr.perm
  base := hr.base
  hpIn := hr.hpIn
  stIn := hr.stIn
  lt r b h := by rw [push_size]; exact Nat.lt_succ_of_lt (hr.lt r b h)
  inj := hr.inj
  kind r b hs h := by
    have := hr.lt r b h
    simp only [Gh.grow]; rw [if_neg (by omega)]
    exact hr.kind r b hs h

theorem Ext.push (d : Nat) (c : Array Value) (T : TypeId) (fr : Nat × Nat) (o : Option Owner) : Ext d g (g.grow W.heap.size o) W (World.push W c T fr) where
  size := by rw [push_size]; omega
  keep b hb ho := ⟨by simp only [Gh.grow]; rw [if_neg (by omega)]; exact ho, push_old W c T fr hb⟩
  stab _ _ h := h
  perm _ h := h
  fresh _ h := .inl h
  blk _ _ _ h := h
  newBlk _ _ h := .inl h
  os := rfl
  tape := rfl
  output := rfl
end
end Go.VM

/-
V: the operations that only read: the model's run of each is what the machine says.
-/
namespace Go.VM
open Go
set_option linter.unusedVariables false
set_option linter.unusedSimpArgs false

section
variable {P : Program} {W : World} {cx : Cx} {o o1 o2 : List Nat → Option Owner}

theorem SRs.any : ∀ {i : Nat} {v : List SV} {x : List Value}, SRs cx o i v x → AnyRs cx v x
  | _, [], [], _ => by simp [AnyRs]
  | i, v :: vs, x :: xs, e => by simp only [SRs, AnyRs] at e ⊢; exact ⟨⟨_, e.1⟩, SRs.any e.2⟩
  | _, [], _ :: _, e => by simp [SRs] at e
  | _, _ :: _, [], e => by simp [SRs] at e
theorem AnyRs.length : ∀ {v : List SV} {x : List Value}, AnyRs cx v x → x.length = v.length
  | [], [], _ => rfl
  | v :: vs, x :: xs, e => by simp only [AnyRs] at e; simp [AnyRs.length e.2]
  | [], _ :: _, e => by simp [AnyRs] at e
  | _ :: _, [], e => by simp [AnyRs] at e
theorem AnyRs.append : ∀ {v v' : List SV} {x x' : List Value}, AnyRs cx v x → AnyRs cx v' x' → AnyRs cx (v ++ v') (x ++ x')
  | [], _, [], _, _, h => by simpa using h
  | v :: vs, _, x :: xs, _, e, h => by simp only [AnyRs, List.cons_append] at e ⊢; exact ⟨e.1, AnyRs.append e.2 h⟩
  | [], _, _ :: _, _, e, _ => by simp [AnyRs] at e
  | _ :: _, _, [], _, e, _ => by simp [AnyRs] at e
theorem AnyRs.drop : ∀ {v : List SV} {x : List Value} (n : Nat), AnyRs cx v x → AnyRs cx (v.drop n) (x.drop n)
  | _, _, 0, h => by simpa using h
  | [], [], n + 1, _ => by simp [AnyRs]
  | v :: vs, x :: xs, n + 1, e => by simp only [AnyRs, List.drop_succ_cons] at e ⊢; exact AnyRs.drop n e.2
  | [], _ :: _, _ + 1, e => by simp [AnyRs] at e
  | _ :: _, [], _ + 1, e => by simp [AnyRs] at e
theorem AnyRs.take : ∀ {v : List SV} {x : List Value} (n : Nat), AnyRs cx v x → AnyRs cx (v.take n) (x.take n)
  | _, _, 0, h => by simp [AnyRs]
  | [], [], n + 1, _ => by simp [AnyRs]
  | v :: vs, x :: xs, n + 1, e => by simp only [AnyRs, List.take_succ_cons] at e ⊢; exact ⟨e.1, AnyRs.take n e.2⟩
  | [], _ :: _, _ + 1, e => by simp [AnyRs] at e
  | _ :: _, [], _ + 1, e => by simp [AnyRs] at e
theorem AnyRs.plains : ∀ {v : List SV} {x : List Value} {l : List PV}, AnyRs cx v x → plains v = some l → PRs cx.g l x
  | [], [], _, _, h => by simp [VM.plains] at h; subst h; simp [PRs]
  | v :: vs, x :: xs, l, e, h => by
    simp only [AnyRs] at e
    cases v <;> simp only [VM.plains, Option.map_eq_some_iff, reduceCtorEq] at h
    obtain ⟨l', h1, rfl⟩ := h
    obtain ⟨⟨o, h2⟩, h3⟩ := e
    simp only [PRs]
    exact ⟨by simpa [SR] using h2, AnyRs.plains h3 h1⟩
  | [], _ :: _, _, e, _ => by simp [AnyRs] at e
  | _ :: _, [], _, e, _ => by simp [AnyRs] at e
theorem PRs.any {l : List PV} {x : List Value} (h : PRs cx.g l x) : AnyRs cx (l.map .p) x := SRs.any (o := fun _ => none) (i := 0) (PRs.toSRs h)

theorem cells_any {v : SV} {X : Value} (h : SR cx o v X) (hu : isUndef v = false) : AnyRs cx v.cells X.cells.toList :=
  SRs.any (cells_ok h (by rintro rfl; simp [isUndef] at hu))

theorem splice_some {α : Type} {l vs r : List α} {off : Nat} (h : splice l off vs = some r) : off + vs.length ≤ l.length ∧ r = l.take off ++ (vs ++ l.drop (off + vs.length)) := by
  unfold splice at h
  split at h
  · simp at h; exact ⟨by assumption, h.symm⟩
  · simp at h

theorem zip_set (vs : List Value) : ∀ (cells : Array Value) (off k : Nat), off + k + vs.length ≤ cells.size →
    ((vs.zipIdx k).foldl (fun cs (x : Value × Nat) => cs.setIfInBounds (off + x.2) x.1) cells).toList = cells.toList.take (off + k) ++ (vs ++ cells.toList.drop (off + k + vs.length)) := by
  induction vs with
  | nil => intro cells off k _; simp
  | cons v vs ih =>
    intro cells off k h
    simp only [List.length_cons] at h
    rw [List.zipIdx_cons, List.foldl_cons, show (k + 1 : Nat) = k + 1 from rfl, ih (cells.setIfInBounds (off + k) v) off (k + 1) (by simp; omega)]
    have hlt : off + k < cells.toList.length := by simp; omega
    simp only [Array.toList_setIfInBounds, List.length_cons]
    rw [show off + (k + 1) = off + k + 1 by omega, List.take_succ_eq_append_getElem (by simpa using hlt), List.take_set_of_le (Nat.le_refl _)]
    simp only [List.getElem_set_self, List.append_assoc, List.singleton_append, List.cons_append]
    rw [List.drop_set_of_lt (by omega), show off + k + 1 + vs.length = off + k + (vs.length + 1) by omega, List.nil_append]

theorem fill_cons {place : Nat → Option (Nat × Nat)} {cells : Array Value} {i off n : Nat} {v : Value} {rest : List (Nat × Value)} (hp : place i = some (off, n)) (hn : v.cells.size = n) (hle : off + n ≤ cells.size) :
    ∃ cells' : Array Value, cells'.toList = cells.toList.take off ++ (v.cells.toList ++ cells.toList.drop (off + n)) ∧ Instr.fill place cells ((i, v) :: rest) = Instr.fill place cells' rest := by
  refine ⟨v.cells.zipIdx.foldl (fun cs (c, j) => cs.setIfInBounds (off + j) c) cells, ?_, ?_⟩
  · rw [← Array.foldl_toList]
    have := zip_set v.cells.toList cells off 0 (by simp [hn]; omega)
    simp only [Nat.add_zero, Array.length_toList, hn] at this
    rw [← this]
    congr 2
    simp [Array.toList_zipIdx]
  · simp only [Instr.fill, hp]
    rw [if_neg]
    simp [hn]; omega

/-- parts, in the machine's words and in the model's -/
def PartsR (cx : Cx) : List (Nat × Nat × SV) → List (Nat × Value) → (Nat → Option (Nat × Nat)) → Prop
  | [], [], _ => True
  | (off, n, v) :: r, (i, x) :: xs, place => place i = some (off, n) ∧ (∃ o, SR cx o v x) ∧ PartsR cx r xs place
  | _, _, _ => False

theorem fillP_ok {place : Nat → Option (Nat × Nat)} : ∀ {parts : List (Nat × Nat × SV)} {xs : List (Nat × Value)} {zero r : List SV} {cells : Array Value}, fillP zero parts = some r → PartsR cx parts xs place → AnyRs cx zero cells.toList →
    ∃ out : Array Value, Instr.fill place cells xs = some out ∧ AnyRs cx r out.toList
  | [], [], zero, r, cells, h, _, hz => by simp [fillP] at h; subst h; exact ⟨cells, rfl, hz⟩
  | (off, n, v) :: ps, (i, x) :: xs, zero, r, cells, h, hp, hz => by
    simp only [PartsR] at hp
    obtain ⟨h1, ⟨o, h2⟩, h3⟩ := hp
    simp only [fillP] at h
    split at h
    case isFalse => simp at h
    rename_i hc
    simp only [Option.bind_eq_some_iff] at h
    obtain ⟨z', hz', h⟩ := h
    obtain ⟨hle, rfl⟩ := splice_some hz'
    have hcl := cells_any h2 hc.2
    have l1 := AnyRs.length hcl
    have l2 := AnyRs.length hz
    simp only [Array.length_toList] at l1 l2
    obtain ⟨cells', e1, e2⟩ := fill_cons (cells := cells) (rest := xs) h1 (by rw [l1, hc.1]) (by rw [l2, ← hc.1]; exact hle)
    rw [e2]
    refine fillP_ok h h3 ?_
    rw [e1, ← hc.1]
    exact AnyRs.append (AnyRs.take _ hz) (AnyRs.append hcl (AnyRs.drop _ hz))
  | [], _ :: _, _, _, _, _, hp, _ => by simp [PartsR] at hp
  | _ :: _, [], _, _, _, _, hp, _ => by simp [PartsR] at hp

theorem PRss_flat {g : Gh} {s : Nat} : ∀ {es : List (List PV)} {l : List Value}, lensAre s es → PRs g es.flatten l → PRss g es l
  | [], _, _, _ => by simp [PRss]
  | e :: r, l, hl, h => by
    simp only [PRss, lensAre, lenL_eq, List.flatten_cons] at hl h ⊢
    have h1 := PRs.take e.length h
    have h2 := PRs.drop e.length h
    rw [List.take_left' rfl] at h1
    rw [List.drop_left' rfl] at h2
    exact ⟨h1, PRss_flat hl.2 h2⟩
theorem flat_PRss {g : Gh} {s : Nat} : ∀ {es : List (List PV)} {l : List Value}, lensAre s es → l.length = es.length * s → PRss g es l → PRs g es.flatten l
  | [], l, _, hn, _ => by simp at hn; subst hn; simp [PRs]
  | e :: r, l, hl, hn, h => by
    simp only [PRss, lensAre, lenL_eq, List.flatten_cons, List.length_cons] at hl hn h ⊢
    rw [Nat.succ_mul] at hn
    have h2 := flat_PRss hl.2 (by rw [List.length_drop]; omega) h.2
    have := PRs.append h.1 h2
    rwa [List.take_append_drop] at this

theorem flatten_length {s : Nat} : ∀ {es : List (List PV)}, lensAre s es → es.flatten.length = es.length * s
  | [], _ => by simp
  | e :: r, h => by
    simp only [lensAre, lenL_eq] at h
    rw [List.flatten_cons, List.length_append, flatten_length h.2, h.1, List.length_cons, Nat.succ_mul, Nat.add_comm]

theorem lensAre_set {s : Nat} {es : List (List PV)} {i : Nat} {c : List PV} (h : lensAre s es) (hc : c.length = s) : lensAre s (es.set i c) := by
  rw [lensAre_iff] at *
  intro e he
  rcases List.mem_or_eq_of_mem_set he with he | rfl
  · exact h e he
  · exact hc

theorem flatten_set {s : Nat} : ∀ {es : List (List PV)} {i : Nat} {c : List PV}, lensAre s es → c.length = s → i < es.length →
    (es.set i c).flatten = es.flatten.take (i * s) ++ (c ++ es.flatten.drop (i * s + s))
  | e :: r, 0, c, h, hc, _ => by
    simp only [lensAre, lenL_eq] at h
    simp [List.drop_left' h.1]
  | e :: r, i + 1, c, h, hc, hi => by
    simp only [lensAre, lenL_eq] at h
    rw [List.set_cons_succ, List.flatten_cons, flatten_set h.2 hc (by simpa using hi), List.flatten_cons, Nat.succ_mul]
    rw [show i * s + s = e.length + i * s by rw [h.1]; omega, List.take_append, List.drop_append, ← List.append_assoc]
    have e1 : e.take (e.length + i * s) = e := List.take_of_length_le (by omega)
    have e2 : e.length + i * s - e.length = i * s := by omega
    have e3 : e.drop (e.length + i * s + s) = [] := List.drop_of_length_le (by omega)
    have e4 : e.length + i * s + s - e.length = i * s + s := by omega
    rw [e1, e2, e3, e4, List.nil_append]
    simp only [List.append_assoc]
    rw [show e.length + i * s = i * s + s by omega]
  | [], _, _, _, _, hi => by simp at hi

theorem fillL_ok {s : Nat} : ∀ {parts : List (Nat × SV)} {xs : List (Nat × Value)} {rows r : List (List PV)} {cells : Array Value}, fillL s rows parts = some r →
    PartsR cx (parts.map fun x => (x.1 * s, s, x.2)) xs (fun i => some (i * s, s)) → xs.map (·.1) = parts.map (·.1) → lensAre s rows → PRs cx.g rows.flatten cells.toList →
    ∃ out : Array Value, Instr.fill (fun i => some (i * s, s)) cells xs = some out ∧ PRs cx.g r.flatten out.toList ∧ lensAre s r ∧ r.length = rows.length
  | [], [], rows, r, cells, h, _, _, hl, hz => by simp [fillL] at h; subst h; exact ⟨cells, rfl, hz, hl, rfl⟩
  | (i, v) :: ps, (j, x) :: xs, rows, r, cells, h, hp, hj, hl, hz => by
    simp only [List.map_cons, PartsR, Option.some.injEq, Prod.mk.injEq, and_true] at hp
    simp only [List.map_cons, List.cons.injEq] at hj
    obtain ⟨rfl, hj⟩ := hj
    obtain ⟨_, ⟨o, h2⟩, h3⟩ := hp
    simp only [fillL, Option.bind_eq_some_iff] at h
    obtain ⟨c, hc, h⟩ := h
    split at h
    case isFalse => simp at h
    rename_i hcs
    have hcl := cells_any h2 (by cases v <;> simp_all [SV.cells, VM.plains, isUndef])
    have hpc := AnyRs.plains hcl hc
    have l1 := PRs.length hpc
    have l2 := PRs.length hz
    rw [flatten_length hl] at l2
    simp only [Array.length_toList] at l1 l2
    have hle : j * s + s ≤ rows.length * s := by
      have := Nat.mul_le_mul_right s (Nat.succ_le_of_lt hcs.2)
      rwa [Nat.succ_mul] at this
    obtain ⟨cells', e1, e2⟩ := fill_cons (place := fun i => some (i * s, s)) (i := j) (cells := cells) (rest := xs) (v := x) rfl (by rw [l1, hcs.1]) (by rw [l2]; exact hle)
    rw [e2]
    obtain ⟨out, f1, f2, f3, f4⟩ := fillL_ok (cells := cells') h h3 hj (lensAre_set hl hcs.1) (by
      rw [e1, flatten_set hl hcs.1 hcs.2]
      exact PRs.append (PRs.take _ hz) (PRs.append hpc (PRs.drop _ hz)))
    exact ⟨out, f1, f2, f3, by simpa using f4⟩
  | [], _ :: _, _, _, _, _, hp, _, _, _ => by simp [PartsR] at hp
  | _ :: _, [], _, _, _, _, hp, _, _, _ => by simp [PartsR] at hp
end
end Go.VM

/-
V: the operations that only read, at the model's own operations.
-/
namespace Go.VM
open Go
set_option linter.unusedVariables false
set_option linter.unusedSimpArgs false

structure Good (ba : Ba) (σ : St) (g : Gh) (tmps : Array Value) (W : World) (v : SV) (x : Value) (g' : Gh) (W' : World) : Prop where
  rel : Rel ba σ g' tmps W'
  ext : Ext σ.out.length g g' W W'
  val : SR ⟨g', W', tmps, σ.env⟩ resO v x

/-- calls that only read, as the machine has them -/
def CallQ (P : Program) (ba : Ba) (σ : St) (callq : Nat → List SV → Option SV) : Prop :=
  ∀ (f : Nat) (ws args : List SV) (v : SV) (g : Gh) (tmps : Array Value) (W : World) (xs : Array Value), mapO (argRo σ) ws = some args → (∀ caps, callq f (args ++ caps) = some v →
    Rel ba σ g tmps W → AnyRs ⟨g, W, tmps, σ.env⟩ ws xs.toList → ∀ (cs : Array Value), okMem.okCaps caps = true → AnyRs ⟨g, W, tmps, σ.env⟩ caps cs.toList →
    ∀ (o : Oper) (a : Act) (next : Act → World → Prop) (Q : Exit → Act → World → Prop), a.tmps = tmps →
      (∀ x g' W', Good ba σ g tmps W v x g' W' → next (a.put o.dst x) W') → o.upon P a next Q ((callFunc f (xs ++ cs)).run P W))

theorem wp_val {P : Program} {o : Oper} {a : Act} {W W' : World} {next : Act → World → Prop} {Q : Exit → Act → World → Prop} {x : Value}
    (h : (execOp a.eval o).run P W = .ok (.value x) W') (hn : next (a.put o.dst x) W') : o.wp P a W next Q := by
  unfold Oper.wp
  rw [h]
  exact hn

theorem mapM_mapO {α β : Type} (f : α → Option β) (l : List α) : l.mapM f = mapO f l := by
  induction l with
  | nil => rfl
  | cons a l ih => simp only [List.mapM_cons, mapO, ih]; cases f a <;> simp [bind, pure, Option.bind, Option.map] <;> cases mapO f l <;> rfl
theorem mapO_map {α β γ : Type} (f : β → Option γ) (k : α → β) (l : List α) : mapO (fun x => f (k x)) l = mapO f (l.map k) := by
  induction l with
  | nil => rfl
  | cons a l ih => simp [mapO, ih]

section
variable {P : Program} {ba : Ba} {σ : St} {g : Gh} {a : Act} {W : World}

theorem opds_ok (hr : Rel ba σ g a.tmps W) : ∀ {ys : List Operand} {xs : List Opd}, mapO opdOf ys = some xs → AnyRs ⟨g, W, a.tmps, σ.env⟩ (xs.map (rd σ)) (ys.map a.eval)
  | [], xs, h => by simp [mapO] at h; subst h; simp [AnyRs]
  | y :: ys, xs, h => by
    simp only [mapO, Option.bind_eq_some_iff, Option.map_eq_some_iff] at h
    obtain ⟨x, hx, l, hl, rfl⟩ := h
    simp only [List.map_cons, AnyRs]
    exact ⟨rd_ok hr hx, opds_ok hr hl⟩

theorem optO_ok (hr : Rel ba σ g a.tmps W) {y : Option Operand} {x : Option Opd} (h : optO y = some x) : OptR ⟨g, W, a.tmps, σ.env⟩ (x.map (rd σ)) (y.map a.eval) := by
  cases y with
  | none => simp [optO] at h; subst h; simp [OptR]
  | some y =>
    simp only [optO, Option.map_eq_some_iff] at h
    obtain ⟨z, hz, rfl⟩ := h
    simp only [Option.map_some, OptR]
    exact rd_ok hr hz

theorem good_same (hr : Rel ba σ g a.tmps W) {v : SV} {x : Value} (h : SR ⟨g, W, a.tmps, σ.env⟩ resO v x) : Good ba σ g a.tmps W v x g W := ⟨hr, Ext.refl _ _ _, h⟩

theorem zeroOf_ok {cx : Cx} {t : TypeId} {z : List SV} (h : zeroOf P t = some z) : ∃ v, (zeroValue t).run P W = .ok v W ∧ AnyRs cx z v.cells.toList ∧ ∃ i, P.info? t = some i ∧ i.zero = some v := by
  simp only [zeroOf, Option.bind_eq_some_iff] at h
  obtain ⟨i, hi, v, hv, h⟩ := h
  refine ⟨v, by simp [zeroValue, typeInfo, hi, hv], ?_, i, hi, hv⟩
  generalize v.cells.toList = l at h
  induction l generalizing z with
  | nil => simp [mapO] at h; subst h; simp [AnyRs]
  | cons x l ih =>
    simp only [mapO, Option.bind_eq_some_iff, Option.map_eq_some_iff] at h
    obtain ⟨s, hs, r, hr, rfl⟩ := h
    simp only [AnyRs]
    exact ⟨⟨fun _ => none, vOf_ok hs⟩, ih hr⟩

theorem elemTy_ok {t e : TypeId} (h : elemTy P t = some e) : P.underlying t = some (.slice e) := by
  unfold elemTy at h
  split at h
  · simp at h; subst h; assumption
  · simp at h

/-- an own slice that was just made -/
theorem own_new (hr : Rel ba σ g a.tmps W) {s n cap : Nat} {es : List (List PV)} {c : Array Value} {T : TypeId} {fr : Nat × Nat} (hn : es.length = n) (hc : n ≤ cap) (hl : lensAre s es) (hsz : cap * s ≤ c.size) (hu : Unfr fr c.size) (hp : PRss g es c.toList) :
    Good ba σ g a.tmps W (.own s es) (.slice (some ⟨W.heap.size, 0, none⟩) n cap) (g.grow W.heap.size (some (.res []))) (World.push W c T fr) := by
  refine ⟨hr.push c T fr _, Ext.push _ c T fr _, ?_⟩
  simp only [SR, OwnR]
  refine ⟨_, n, cap, rfl, hn, hc, rfl, hl, .inr ⟨c, T, fr, push_new W c T fr, hu, by simp [Gh.grow, resO], by simpa using hsz, ?_⟩⟩
  simp only [List.drop_zero]
  exact PRss.mono (g := g) (g' := g.grow W.heap.size (some (.res []))) ⟨fun _ _ h => h, fun _ h => h⟩ _ _ hp

theorem run_newRow (T : TypeId) (c : Array Value) : (newRow T c).run P W = .ok ⟨W.heap.size, 0, none⟩ (World.push W c T (0, 0)) := by
  simp [newRow, newObj, Sem.run, World.push]

theorem zeros_cells (zero : Array Value) (hz : 0 < zero.size) (len : Nat) : ((Array.range (len * zero.size)).map fun i => zero[i % zero.size]!).toList = (List.replicate len zero.toList).flatten := by
  rw [Array.toList_map, Array.toList_range]
  induction len with
  | zero => simp
  | succ n ih =>
    rw [Nat.succ_mul, List.range_add, List.map_append, ih, List.replicate_succ', List.flatten_append]
    congr 1
    simp only [List.map_map, List.flatten_cons, List.flatten_nil, List.append_nil]
    apply List.ext_getElem
    · simp
    · intro i h1 h2
      simp only [List.length_map, List.length_range] at h1
      simp [Nat.mod_eq_of_lt h1, h1]

theorem replicate_PRs {g : Gh} {z : List PV} {x : List Value} (h : PRs g z x) : ∀ n, PRs g (List.replicate n z).flatten (List.replicate n x).flatten
  | 0 => by simp [PRs]
  | n + 1 => by simp only [List.replicate_succ, List.flatten_cons]; exact PRs.append h (replicate_PRs h n)
theorem replicate_lens {s : Nat} {z : List PV} (h : z.length = s) (n : Nat) : lensAre s (List.replicate n z) := by
  rw [lensAre_iff]; intro e he; rw [List.eq_of_mem_replicate he]; exact h

theorem parts_ok {pl : Nat → Option (Nat × Nat)} (hr : Rel ba σ g a.tmps W) : ∀ {parts : List (Nat × Operand)} {l : List (Nat × Nat × Opd)},
    mapO (fun x : Nat × Operand => (pl x.1).bind fun q => (opdOf x.2).map fun y => (q.1, q.2, y)) parts = some l →
    PartsR ⟨g, W, a.tmps, σ.env⟩ (l.map fun x => (x.1, x.2.1, rd σ x.2.2)) (parts.map fun x => (x.1, a.eval x.2)) pl
  | [], l, h => by simp [mapO] at h; subst h; simp [PartsR]
  | p :: ps, l, h => by
    simp only [mapO, Option.bind_eq_some_iff, Option.map_eq_some_iff] at h
    obtain ⟨x, ⟨q, hq, y, hy, rfl⟩, r, hr', rfl⟩ := h
    simp only [List.map_cons, PartsR]
    exact ⟨hq, rd_ok hr hy, parts_ok hr hr'⟩
theorem built_ok {t : TypeId} {z : List SV} {pl : Nat → Option (Nat × Nat)} {cx : Cx} {ps : List (Nat × Nat × SV)} {xs : Array (Nat × Value)} {r : List SV} (hz : zeroOf P t = some z) (hp : placesOf P t = some pl) (h : fillP z ps = some r)
    (hps : PartsR cx ps xs.toList pl) : ∃ out : Array Value, (Instr.build t xs).run P W = .ok (.agg out) W ∧ AnyRs cx r out.toList := by
  obtain ⟨v, hv1, hv2, i, hi, hiz⟩ := zeroOf_ok (W := W) (cx := cx) hz
  obtain ⟨out, h1, h2⟩ := fillP_ok h hps hv2
  refine ⟨out, run_build W t xs out ?_, h2⟩
  unfold placesOf at hp
  unfold Program.built
  split at hp
  · next fs hu =>
    simp only [Option.map_eq_some_iff] at hp
    obtain ⟨l, hl, rfl⟩ := hp
    simp only [hi, hu, hiz, hl]
    simpa using h1
  · next n e hu =>
    simp only [Option.map_eq_some_iff] at hp
    obtain ⟨ie, hie, rfl⟩ := hp
    simp only [hi, hu, hiz, hie]
    exact h1
  · simp at hp
theorem parts_slice {s : Nat} (hr : Rel ba σ g a.tmps W) : ∀ {parts : List (Nat × Operand)} {l : List (Nat × Opd)},
    mapO (fun x : Nat × Operand => (opdOf x.2).map fun y => (x.1, y)) parts = some l →
    PartsR ⟨g, W, a.tmps, σ.env⟩ ((l.map fun x => (x.1, rd σ x.2)).map fun x => (x.1 * s, s, x.2)) (parts.map fun x => (x.1, a.eval x.2)) (fun i => some (i * s, s)) ∧
      (parts.map fun x => (x.1, a.eval x.2)).map (·.1) = (l.map fun x => (x.1, rd σ x.2)).map (·.1)
  | [], l, h => by simp [mapO] at h; subst h; simp [PartsR]
  | p :: ps, l, h => by
    simp only [mapO, Option.bind_eq_some_iff, Option.map_eq_some_iff] at h
    obtain ⟨x, ⟨y, hy, rfl⟩, r, hr', rfl⟩ := h
    obtain ⟨h1, h2⟩ := parts_slice (s := s) hr hr'
    simp only [List.map_cons, PartsR]
    exact ⟨⟨trivial, rd_ok hr hy, h1⟩, by rw [h2]⟩


theorem Rel.heapEq {W' : World} (hr : Rel ba σ g a.tmps W) (h : W'.heap = W.heap) : Rel ba σ g a.tmps W' := by
  have hc : ∀ ad, W'.cell? ad = W.cell? ad := by intro ad; simp [World.cell?, h]
  have hf : Fr (fun _ => True) ⟨g, W, a.tmps, σ.env⟩ ⟨g, W', a.tmps, σ.env⟩ := ⟨⟨fun _ _ h => h, fun _ h => h⟩, fun _ _ h => h, fun b _ _ => ⟨by simp [h], rfl⟩, trivial⟩
  have hd : ∀ pl x, hdr ⟨g, W, a.tmps, σ.env⟩ pl = some x → hdr ⟨g, W', a.tmps, σ.env⟩ pl = some x := by intro pl x e; simpa [hdr, hc] using e
  exact ⟨fun k => SR.frame hf hd (fun _ => trivial) (hr.env k), fun r ob hs ho hne => ObR.frame hf (fun _ => trivial) trivial (hr.mem r ob hs ho hne), fun b c e => by have := hr.stab b c e; simpa [cellsAt, h] using this,
    fun b hb => hr.alive b (by rw [← h]; exact hb), hr.perm, hr.base, hr.hpIn, hr.stIn, fun r b e => by rw [h]; exact hr.lt r b e, hr.inj, hr.kind⟩

theorem run_makeSlice {t e : TypeId} {k : IntKind} {n s : Nat} {i : TypeInfo} {z : Value} (ht : P.underlying t = some (.slice e)) (hi : P.info? e = some i) (hs : i.size = s) (hz : (zeroValue e).run P W = .ok z W)
    (hzs : n * s = 0 ∨ 0 < z.cells.size) (hlz : z.cells.size = s) (h1 : n * i.bytes ≤ 140737488355328) (h2 : n ≤ 140737488355328) :
    ∃ c : Array Value, c.toList = (List.replicate n z.cells.toList).flatten ∧ (Instr.makeSlice t (.int k n) (.int k n)).run P W = .ok (.slice (some ⟨W.heap.size, 0, none⟩) n n) (World.push W c e (0, 0)) := by
  have hw : IntKind.i64.wrap (n : Int) = n := by
    exact IntWalk.i64_in _ ⟨by omega, by omega⟩
  have hb : ¬ ((i.bytes : Int) * (n : Int) > 2 ^ 48) := by
    have : (i.bytes : Int) * (n : Int) = ((n * i.bytes : Nat) : Int) := by rw [Nat.mul_comm]; simp
    rw [this]; omega
  refine ⟨(Array.range (n * s)).map (z.cells[· % z.cells.size]!), ?_, ?_⟩
  · rcases Nat.eq_zero_or_pos z.cells.size with h0 | h0
    · have : n * s = 0 := by rcases hzs with h | h <;> omega
      rw [this]
      have h3 : z.cells.toList = [] := by simpa using h0
      rw [h3]; simp
    · rw [← hlz]; exact zeros_cells z.cells h0 n
  · have hroom : (askRoom (n * i.bytes)).run P W = .ok () W := by
      unfold askRoom; split <;> simp [mark, Sem.run]
    simp only [Instr.makeSlice, Sem.run_bind, run_underlying ht, Result.andThen_ok, asInt, run_asIntOf, Sem.run_pure, run_typeInfo hi, hw, Int.toNat_natCast]
    rw [if_neg (by simp; omega)]
    simp only [Sem.run_bind, Sem.run_pure, Result.andThen_ok, hroom, Sem.run_ite, Result.andThen_ite, hz, run_newRow, sizeOf, run_typeInfo hi, hs]
    by_cases h0 : n * s = 0
    · rw [if_pos h0, h0]
      have : Array.range 0 = #[] := rfl
      simp [this]
    · rw [if_neg h0]
end
end Go.VM

/-
V: each operation that only reads, whole.
-/
namespace Go.VM
open Go
set_option linter.unusedVariables false
set_option linter.unusedSimpArgs false

section
variable {P : Program} {ba : Ba} {σ : St} {g : Gh} {a : Act} {W : World}

theorem byteRows_ok (g : Gh) : ∀ (l : List UInt8), PRs g (byteRows l).flatten (l.map fun b => Value.int .u8 b.toNat) ∧ lensAre 1 (byteRows l) ∧ (byteRows l).length = l.length
  | [] => by simp [byteRows, PRs, lensAre]
  | b :: l => by
    obtain ⟨h1, h2, h3⟩ := byteRows_ok g l
    simp only [byteRows, List.map_cons, List.flatten_cons, List.cons_append, List.nil_append, PRs, PR, true_and, lensAre, lenL, List.length_cons, List.length_map] at h1 h2 h3 ⊢
    exact ⟨h1, h2, trivial⟩

theorem run_s2b (e : TypeId) (s : ByteArray) : ∃ (cap : Nat) (c : Array Value) (W1 : World), s.size ≤ cap ∧ cap ≤ c.size ∧ W1.heap = W.heap ∧ W1.os = W.os ∧ W1.tape = W.tape ∧ W1.output = W.output ∧
    (∃ r, c.toList = (s.data.toList.map fun b => Value.int .u8 b.toNat) ++ r) ∧
    (Conv.stringToBytes e s).run P W = .ok (.slice (some ⟨W.heap.size, 0, none⟩) s.size cap) (World.push W1 c e (c.size, c.size + 1)) := by
  have hch : ∃ cap, s.size ≤ cap ∧ (choose (.appendCap s.size 0 e)).run P W = .ok cap { W with drawn := W.drawn + 1 } := by
    refine ⟨Question.cut (.appendCap s.size 0 e) (W.tape W.drawn (.appendCap s.size 0 e)), ?_, by simp [choose, Sem.run, Question.forced]⟩
    simp only [Question.cut]; omega
  obtain ⟨cap, hle, hrun⟩ := hch
  refine ⟨cap, (s.data.map fun b => .int .u8 b.toNat) ++ Array.replicate (cap - s.size) (.int .u8 0), { W with drawn := W.drawn + 1 }, hle, ?_, rfl, rfl, rfl, rfl, ⟨List.replicate (cap - s.size) (.int .u8 0), by simp⟩, ?_⟩
  · have : s.data.size = s.size := rfl
    simp [this]; omega
  · simp only [Conv.stringToBytes, Sem.run_bind, hrun, Result.andThen_ok, run_newRow, markStringish, shape, Sem.run, World.shape?, push_new, freeze, Sem.run_pure]
    congr 1
    simp only [World.freeze, World.push]
    rw [if_neg (by omega)]
    congr 1
    apply Array.ext
    · simp
    · intro i h1 h2
      simp only [Array.size_modify, Array.size_push] at h1
      rw [Array.getElem_modify]
      simp only [Array.getElem_push]
      by_cases hi : i < W.heap.size
      · simp only [hi, dite_true]; rw [if_neg (by omega)]
      · simp only [hi, dite_false]
        have : W.heap.size = i := by omega
        rw [if_pos this]
        simp

theorem caps_ok {cx : Cx} : ∀ {l : List SV} {xs : List Value} (o : List Nat → Option Owner) (i : Nat), AnyRs cx l xs → okMem.okCaps l = true → SRs cx o i l xs
  | [], [], _, _, _, _ => by simp [SRs]
  | v :: vs, x :: xs, o, i, e, h => by
    cases v <;> simp only [okMem.okCaps, Bool.and_eq_true, Bool.false_eq_true] at h
    simp only [AnyRs] at e
    obtain ⟨⟨o', h1⟩, h2⟩ := e
    simp only [SRs]
    exact ⟨SR.anyO rfl h1, caps_ok o (i + 1) h2 h.2⟩
  | [], _ :: _, _, _, e, _ => by simp [AnyRs] at e
  | _ :: _, [], _, _, e, _ => by simp [AnyRs] at e

theorem natOf_eq {cx : Cx} {o : List Nat → Option Owner} {v : SV} {n : Nat} {X : Value} (h : natOf v = some n) (hv : SR cx o v X) : ∃ k, X = .int k (n : Int) := natOf_ok h hv

theorem any_get {cx : Cx} : ∀ {l : List SV} {xs : List Value}, AnyRs cx l xs → l.length = xs.length := fun h => (AnyRs.length h).symm

theorem cvOf_int {s d : TypeId} {k : IntKind} (h : cvOf P s d = some (.int k)) : ∃ k0, P.underlying s = some (.int k0) ∧ P.underlying d = some (.int k) := by
  unfold cvOf at h
  split at h <;> (try split at h) <;> simp_all
theorem cvOf_same {s d : TypeId} (h : cvOf P s d = some .same) : P.underlying s = some .string ∧ P.underlying d = some .string := by
  unfold cvOf at h
  split at h <;> (try split at h) <;> simp_all
theorem cvOf_s2b {s d : TypeId} (h : cvOf P s d = some .s2b) : ∃ e, P.underlying s = some .string ∧ P.underlying d = some (.slice e) ∧ P.underlying e = some (.int .u8) := by
  unfold cvOf at h
  split at h <;> (try split at h) <;> simp_all
theorem cvOf_b2s {s d : TypeId} (h : cvOf P s d = some .b2s) : ∃ e, P.underlying s = some (.slice e) ∧ P.underlying d = some .string ∧ P.underlying e = some (.int .u8) := by
  unfold cvOf at h
  split at h <;> (try split at h) <;> simp_all

/-- the operations that only read -/
theorem qev_ok {callq : Nat → List SV → Option SV} (hc : CallQ P ba σ callq) (hr : Rel ba σ g a.tmps W) {op : Op} {vop : VOp} {hp : Bool} {v : SV} (hop : opOf P hp op = some vop) (hq : qev callq σ vop = some v)
    (dst : Option Tmp) (ty : TypeId) (pos : String) (after : Array Edge) (guard : Option (Nat × Bool)) {next : Act → World → Prop} {Q : Exit → Act → World → Prop}
    (hn : ∀ x g' W', Good ba σ g a.tmps W v x g' W' → next (a.put dst x) W') : (⟨dst, op, ty, pos, after, guard⟩ : Oper).wp P a W next Q := by
  have fin : ∀ V, (execOp a.eval ⟨dst, op, ty, pos, after, guard⟩).run P W = .ok (.value V) W → SR ⟨g, W, a.tmps, σ.env⟩ resO v V → (⟨dst, op, ty, pos, after, guard⟩ : Oper).wp P a W next Q :=
    fun V h1 h2 => wp_val h1 (hn V g W (good_same hr h2))
  cases op <;> simp only [opOf, Option.map_eq_some_iff, Option.bind_eq_some_iff, reduceCtorEq] at hop
  case move x =>
    obtain ⟨x', hx, rfl⟩ := hop
    simp only [qev] at hq
    split at hq
    · simp at hq
    · rename_i ho
      simp only [Option.some.injEq] at hq; subst hq
      exact fin _ (by simp [execOp]) (rd_ok' hr hx (by simpa using ho) _)
  case assign x =>
    obtain ⟨x', hx, rfl⟩ := hop
    simp only [qev] at hq
    split at hq
    · simp at hq
    · rename_i ho
      simp only [Option.some.injEq] at hq; subst hq
      have ho' : owns (take σ x') = false := by simpa using ho
      refine fin (a.eval x) (by simp [execOp]) ?_
      cases x' with
      | c v =>
        obtain ⟨o', h'⟩ := rd_ok hr hx
        exact SR.anyO ho' h'
      | t k =>
        have hy : x = .tmp k := by cases x <;> simp [opdOf] at hx ⊢ <;> first | exact hx | skip
        subst hy
        exact SR.anyO ho' (hr.env k)
  case pick c x y =>
    obtain ⟨c', hc', x', hx, y', hy, rfl⟩ := hop
    simp only [qev] at hq
    obtain ⟨o, hcR⟩ := rd_ok hr hc'
    split at hq
    · rename_i hcv
      rw [hcv] at hcR
      simp only [SR, PR] at hcR
      split at hq
      · simp at hq
      · rename_i ho
        simp only [Option.some.injEq] at hq; subst hq
        exact fin _ (by simp [execOp, hcR, asBool]) (rd_ok' hr hx (by simpa using ho) _)
    · rename_i hcv
      rw [hcv] at hcR
      simp only [SR, PR] at hcR
      split at hq
      · simp at hq
      · rename_i ho
        simp only [Option.some.injEq] at hq; subst hq
        exact fin _ (by simp [execOp, hcR, asBool]) (rd_ok' hr hy (by simpa using ho) _)
    · simp at hq
  case alloc t =>
    obtain ⟨z, _, hop⟩ := hop
    split at hop <;> subst hop <;> simp [qev] at hq
  case box t x => obtain ⟨n, _, x', _, rfl⟩ := hop; simp [qev] at hq
  case build t parts =>
    obtain ⟨z, hz, pl, hpl, l, hl, rfl⟩ := hop
    simp only [qev, Option.bind_eq_some_iff, buildv, Option.map_eq_some_iff] at hq
    obtain ⟨v0, ⟨r, hr0, rfl⟩, hq⟩ := hq
    obtain ⟨out, h1, h2⟩ := built_ok (W := W) (cx := ⟨g, W, a.tmps, σ.env⟩) (xs := parts.map fun (i, x) => (i, a.eval x)) hz hpl hr0 (by simpa using parts_ok hr hl)
    unfold ofCells at hq
    split at hq
    · rename_i c hc0
      split at hc0 <;> simp at hc0
      rename_i l' hl'
      simp only [Option.some.injEq] at hq; subst hq
      refine fin (.agg out) (by simp only [execOp, Sem.run_bind]; rw [h1]; rfl) ?_
      simp only [SR]
      subst hc0
      exact ⟨out, rfl, AnyRs.plains h2 hl'⟩
    · simp at hq
  case buildSlice t len parts =>
    obtain ⟨e, he, s, hs, z, hz, z', hz', hop⟩ := hop
    split at hop
    case isFalse => simp at hop
    rename_i hlen
    simp only [Option.map_eq_some_iff] at hop
    obtain ⟨l, hl, rfl⟩ := hop
    simp only [qev, Option.map_eq_some_iff] at hq
    obtain ⟨r, hr0, rfl⟩ := hq
    obtain ⟨zv, hz1, hz2, i, hi, hiz⟩ := zeroOf_ok (W := W) (cx := ⟨g, W, a.tmps, σ.env⟩) hz
    have hzp := AnyRs.plains hz2 hz'
    have hzl := PRs.length hzp
    have hisz : i.size = s := by simp only [szOf, hi, Option.map_some, Option.some.injEq] at hs; exact hs
    have hzs : zv.cells.size = s := by have := hzl; simp only [Array.length_toList] at this; omega
    obtain ⟨hp1, hp2⟩ := parts_slice (s := s) hr hl
    have hcells : ∃ c0 : Array Value, c0.toList = (List.replicate len zv.cells.toList).flatten ∧ c0 = (Array.range (len * s)).map (zv.cells[· % zv.cells.size]!) := ⟨_, by rw [← hzs]; exact zeros_cells zv.cells (by omega) len, rfl⟩
    obtain ⟨c0, hc0, hc0'⟩ := hcells
    obtain ⟨out, f1, f2, f3, f4⟩ := fillL_ok (cx := ⟨g, W, a.tmps, σ.env⟩) (cells := c0) hr0 hp1 hp2 (replicate_lens hlen.2.2 len) (by rw [hc0]; exact replicate_PRs hzp len)
    rw [List.length_replicate] at f4
    have hls := PRs.length f2
    rw [flatten_length f3, f4, Array.length_toList] at hls
    have hG := own_new hr (c := out) (T := e) (fr := (0, 0)) (cap := len) f4 (Nat.le_refl _) f3 (by omega) (.inl (Nat.le_refl _)) (PRss_flat f3 f2)
    refine wp_val ?_ (hn _ _ _ hG)
    have hne : len * s ≠ 0 → True := fun _ => trivial
    simp only [execOp, Sem.run_bind, Instr.buildSlice, run_underlying (elemTy_ok he), Result.andThen_ok, run_sizeOf hs]
    rw [if_neg (by omega)]
    have hmap : (parts.map fun (i, x) => (i, a.eval x)).toList = parts.toList.map fun x => (x.1, a.eval x.2) := by simp
    by_cases hz0 : len * s = 0
    · have h00 : len = 0 := by rcases Nat.mul_eq_zero.1 hz0 with h | h; exact h; exact absurd h hlen.2.1
      have r0 : Array.range 0 = #[] := rfl
      have e0 : c0 = #[] := by rw [hc0', hz0, r0]; simp
      rw [if_pos hz0]
      simp only [Sem.run_bind, Sem.run_pure, Result.andThen_ok, hmap, hz0]
      rw [r0, List.map_toArray, List.map_nil, ← e0, f1]
      simp only [Sem.run_bind, run_newRow, Result.andThen_ok, Sem.run_pure]
    · rw [if_neg hz0]
      simp only [Sem.run_bind, hz1, Sem.run_pure, Result.andThen_ok, hmap]
      rw [← hc0', f1]
      simp only [Sem.run_bind, run_newRow, Result.andThen_ok, Sem.run_pure]
  case load t x =>
    obtain ⟨z, hz, x', hx, rfl⟩ := hop
    simp only [qev] at hq
    obtain ⟨o, hxR⟩ := rd_ok hr hx
    obtain ⟨V, h1, h2⟩ := loadv_ok (P := P) (o' := resO) hr hq hz hxR
    exact fin V (by simp only [execOp, Sem.run_bind, h1, Result.andThen_ok, Sem.run_pure]) h2
  case store t x y => obtain ⟨n, _, x', _, y', _, rfl⟩ := hop; simp [qev] at hq
  case nilCheck x =>
    obtain ⟨x', hx, rfl⟩ := hop
    simp only [qev] at hq
    obtain ⟨o, hxR⟩ := rd_ok hr hx
    obtain ⟨h1, h2⟩ := nilck_ok (P := P) (W := W) hxR hq pos dst ty after guard a.eval x rfl
    refine fin _ h1 (SR.anyO ?_ h2)
    unfold nilckv at hq; split at hq <;> simp at hq <;> subst hq <;> rfl
  case binOp op t x y t' =>
    obtain ⟨x', hx, y', hy, rfl⟩ := hop
    simp only [qev] at hq
    obtain ⟨o1, hxR⟩ := rd_ok hr hx
    obtain ⟨o2, hyR⟩ := rd_ok hr hy
    obtain ⟨V, h1, h2⟩ := binv_ok (P := P) (W := W) (t := t) (xo := x) (yo := y) (o := resO) hq rfl hxR hyR
    exact fin V (by simp only [execOp]; rw [Sem.run_bind, h1]; rfl) h2
  case unOp op t x =>
    obtain ⟨x', hx, rfl⟩ := hop
    simp only [qev] at hq
    obtain ⟨o1, hxR⟩ := rd_ok hr hx
    obtain ⟨V, h1, h2⟩ := unv_ok (P := P) (W := W) (o := resO) hq hxR
    exact fin V (by simp only [execOp]; rw [Sem.run_bind, h1]; rfl) h2
  case convert s d x =>
    obtain ⟨c, hcv, x', hx, rfl⟩ := hop
    simp only [qev] at hq
    obtain ⟨o1, hxR⟩ := rd_ok hr hx
    unfold convv at hq
    split at hq
    · rename_i k n heq
      rw [heq] at hxR
      simp only [SR, PR] at hxR
      simp only [Option.some.injEq] at hq; subst hq
      obtain ⟨k0, hs, hd⟩ := cvOf_int hcv
      refine fin (.int _ _) ?_ (by simp only [SR]; exact PR_int _ _ _)
      simp [execOp, hxR, convert, run_underlying hs, run_underlying hd, Conv.intToInt]
    · rename_i s' heq
      rw [heq] at hxR
      simp only [Option.some.injEq] at hq; subst hq
      have hxR' := hxR
      simp only [SR, PR] at hxR'
      obtain ⟨B, hB, hB2⟩ := hxR'
      obtain ⟨hs, hd⟩ := cvOf_same hcv
      refine fin (.string B) ?_ (by simp only [SR]; exact PR_str _ _ _ hB2)
      simp [execOp, hB, convert, run_underlying hs, run_underlying hd]
    · rename_i s' heq
      rw [heq] at hxR
      simp only [SR, PR] at hxR
      obtain ⟨B, hB, rfl⟩ := hxR
      split at hq
      case isFalse => simp at hq
      simp only [Option.some.injEq] at hq; subst hq
      obtain ⟨e, hs, hd, hu8⟩ := cvOf_s2b hcv
      · obtain ⟨cap, c, W1, e1, e2, e3, e4, e5, e6, ⟨rr, e7⟩, e8⟩ := run_s2b (P := P) (W := W) e B
        obtain ⟨b1, b2, b3⟩ := byteRows_ok g B.data.toList
        have hr1 := hr.heapEq e3
        have hG := own_new hr1 (c := c) (T := e) (fr := (c.size, c.size + 1)) (n := B.size) (cap := cap) (es := byteRows B.data.toList) (s := 1) (by rw [b3]; simp) e1 b2 (by omega) (.inr (Nat.le_refl _))
          (PRss.upTo (l := (B.data.toList.map fun b => Value.int .u8 b.toNat)) b2 (by rw [e7, b3, Nat.mul_one, List.take_of_length_le (by simp), List.take_left' (by simp)]) (PRss_flat b2 b1))
        have hx1 : Ext σ.out.length g g W W1 := ⟨by rw [e3]; exact Nat.le_refl _, fun _ _ h => ⟨h, by rw [e3]⟩, fun _ _ h => h, fun _ h => h, fun _ h => .inl h, fun _ _ _ h => h, fun _ _ h => .inl h, e4, e5, e6⟩
        refine wp_val ?_ (hn _ _ _ ⟨hG.rel, hx1.trans hG.ext, hG.val⟩)
        simp only [execOp, Sem.run_bind, hB, convert, run_underlying hs, run_underlying hd, run_underlying hu8, Result.andThen_ok]
        rw [e8, ← e3]
        simp
    · simp only [Option.bind_eq_some_iff, Option.map_eq_some_iff] at hq
      obtain ⟨r, hr0, l, hl, rfl⟩ := hq
      obtain ⟨ad, n, cap, hX, h1, h2, h3⟩ := rows_ok hr hr0 hxR
      obtain ⟨e, hs, hd, hu8⟩ := cvOf_b2s hcv
      · rcases h3 with h3 | ⟨b, s', c, rfl, h4, h5, h6, h7⟩
        · have : r = [] := List.length_eq_zero_iff.1 (by omega)
          subst this
          simp [bytesOf] at hl; subst hl
          refine fin (.string .empty) ?_ (by simp only [SR]; exact PR_str _ _ _ rfl)
          subst h3
          cases ad with
          | none => simp [execOp, hX, convert, run_underlying hs, run_underlying hd, run_underlying hu8, Conv.bytesToString]
          | some b =>
            obtain ⟨B, hB, hB2⟩ := run_bytesToString (P := P) (W := W) (a := b) (n := 0) (cap := cap) (ns := []) rfl (by simp)
            have : B = .empty := by obtain ⟨⟨bl⟩⟩ := B; simp at hB2; subst hB2; rfl
            subst this
            simp [execOp, hX, convert, run_underlying hs, run_underlying hd, run_underlying hu8, hB]
        · have hs1 : lensAre 1 r := by
            cases r with
            | nil => simp [lensAre]
            | cons e1 r1 =>
              have : s' = 1 := by
                unfold bytesOf at hl
                split at hl
                · simp_all
                · rename_i heq; simp only [List.cons.injEq] at heq; obtain ⟨rfl, _⟩ := heq; simp [lensAre, lenL] at h5; exact h5.1.symm
                · simp at hl
              rw [← this]; exact h5
          have hlen : r.length ≤ (c.toList.drop b.off).length := by
            rcases PRss.length hs1 h7 with h | h
            · simpa using h
            · simp at h
          obtain ⟨ns, q1, q2⟩ := bytesOf_ok (vs := (c.toList.drop b.off).take r.length) hl (PRss.upTo (l := c.toList.drop b.off) hs1 (by simp [List.take_take]) h7) hs1 (by rw [List.length_take]; omega)
          have hnl : ns.length = n := by have := congrArg List.length q1; simp only [List.length_take, List.length_map] at this; omega
          obtain ⟨B, hB, hB2⟩ := run_bytesToString (P := P) (W := W) (a := b) (n := n) (cap := cap) (ns := ns) hnl (by
            intro j v hv
            rw [add_of h4, cell_of_cellsAt h6]
            rw [← q1, List.getElem?_take] at hv
            split at hv
            · simpa using hv
            · simp at hv)
          refine fin (.string B) ?_ (by simp only [SR]; exact PR_str _ _ _ (by rw [hB2, q2]))
          simp [execOp, hX, convert, run_underlying hs, run_underlying hd, run_underlying hu8, hB]
    · simp at hq
  case makeFunc f first caps =>
    split at hop
    · rename_i f'
      split at hop
      · rename_i hf0
        simp only [Option.map_eq_some_iff] at hop
        obtain ⟨l, hl, rfl⟩ := hop
        simp only [qev] at hq
        split at hq
        case isFalse => simp at hq
        rename_i hcap
        simp only [Option.some.injEq] at hq; subst hq
        have h0 : first = #[] := Array.eq_empty_of_size_eq_zero hf0
        subst h0
        have hA := opds_ok hr hl
        refine fin (.func (.func f') #[] (caps.map a.eval)) (by simp [execOp, Instr.makeFunc]) ?_
        simp only [SR]
        exact ⟨_, rfl, caps_ok _ _ (by simpa using hA) hcap⟩
      · simp at hop
    · simp at hop
  case makeSlice t x y =>
    split at hop
    case h_2 => simp at hop
    rename_i a1 b1
    split at hop
    case isFalse => simp at hop
    rename_i hab; subst hab
    simp only [Option.bind_eq_some_iff] at hop
    obtain ⟨e, he, s, hs, z, hz, z', hz', i, hi, hop⟩ := hop
    split at hop
    case isFalse => simp at hop
    rename_i hzs
    simp only [Option.some.injEq] at hop; subst hop
    simp only [qev, Option.bind_eq_some_iff] at hq
    obtain ⟨n, hn1, hq⟩ := hq
    split at hq
    case isFalse => simp at hq
    rename_i hb
    simp only [Option.some.injEq] at hq; subst hq
    obtain ⟨o1, hxR⟩ := rd_ok (y := .tmp a1) hr rfl
    obtain ⟨k, hk⟩ := natOf_ok hn1 hxR
    obtain ⟨zv, hz1, hz2, i', hi', hiz⟩ := zeroOf_ok (W := W) (cx := ⟨g, W, a.tmps, σ.env⟩) hz
    have hzp := AnyRs.plains hz2 hz'
    have hzl := PRs.length hzp
    rw [hi] at hi'; simp only [Option.some.injEq] at hi'; subst hi'
    have his : i.size = s := by simp only [szOf, hi, Option.map_some, Option.some.injEq] at hs; exact hs
    simp only [Array.length_toList] at hzl
    obtain ⟨c, hc1, hc2⟩ := run_makeSlice (k := k) (elemTy_ok he) hi his hz1 (.inr (by omega)) (by omega) hb.1 hb.2
    have hrp := replicate_PRs hzp n
    rw [← hc1] at hrp
    have hl3 := replicate_lens hzs.1 n
    have hls := PRs.length hrp
    rw [flatten_length hl3, List.length_replicate, Array.length_toList] at hls
    have hG := own_new hr (c := c) (T := e) (fr := (0, 0)) (n := n) (cap := n) (by simp) (Nat.le_refl _) hl3 (by omega) (.inl (Nat.le_refl _)) (PRss_flat hl3 hrp)
    refine wp_val ?_ (hn _ _ _ hG)
    simp only [execOp]
    rw [Sem.run_bind, hk, hc2]
    rfl
  case slice t x lo hi mx =>
    split at hop
    · rename_i e hu
      simp only [Option.map_eq_some_iff, Option.bind_eq_some_iff] at hop
      obtain ⟨s, hs, x', hx, lo', hlo, hi', hhi, mx', hmx, rfl⟩ := hop
      simp only [qev] at hq
      obtain ⟨o1, hxR⟩ := rd_ok hr hx
      have h1 := optO_ok hr hlo
      have h2 := optO_ok hr hhi
      have h3 := optO_ok hr hmx
      cases mx with
      | none =>
        simp only [optO, Option.some.injEq] at hmx; subst hmx
        simp only [Option.map_none] at hq h3 ⊢
        obtain ⟨V, k1, k2⟩ := slc_ok (P := P) (W := W) (o2 := resO) hq hu hs hxR h1 h2
        exact fin V (by simp only [execOp, Option.map_none]; rw [Sem.run_bind, k1]; rfl) k2
      | some m =>
        simp only [optO, Option.map_eq_some_iff] at hmx
        obtain ⟨m', hm, rfl⟩ := hmx
        obtain ⟨o3, hmR⟩ := rd_ok hr hm
        simp only [Option.map_some] at hq ⊢
        obtain ⟨V, k1, k2⟩ := slc0_ok (P := P) (W := W) (o2 := resO) hq hu hs hxR hmR h1 h2
        exact fin V (by simp only [execOp, Option.map_some]; rw [Sem.run_bind, k1]; rfl) k2
    · rename_i hu
      simp only [Option.map_eq_some_iff, Option.bind_eq_some_iff] at hop
      obtain ⟨x', hx, lo', hlo, hi', hhi, mx', hmx, rfl⟩ := hop
      simp only [qev] at hq
      obtain ⟨o1, hxR⟩ := rd_ok hr hx
      have h1 := optO_ok hr hlo
      have h2 := optO_ok hr hhi
      cases mx with
      | none =>
        simp only [optO, Option.some.injEq] at hmx; subst hmx
        simp only [Option.map_none] at hq ⊢
        obtain ⟨V, k1, k2⟩ := slc_str_ok (P := P) (W := W) (o2 := resO) hq hu hxR h1 h2
        exact fin V (by simp only [execOp, Option.map_none]; rw [Sem.run_bind, k1]; rfl) k2
      | some m =>
        simp only [optO, Option.map_eq_some_iff] at hmx
        obtain ⟨m', hm, rfl⟩ := hmx
        simp [slcv] at hq
    · simp at hop
  case fieldAddr t x f =>
    obtain ⟨q, hq1, n, hn1, hop⟩ := hop
    split at hop
    · simp at hop
    · rename_i hn0
      simp only [Option.map_eq_some_iff] at hop
      obtain ⟨x', hx, rfl⟩ := hop
      simp only [qev] at hq
      obtain ⟨o1, hxR⟩ := rd_ok hr hx
      obtain ⟨V, h1, h2⟩ := faddr_ok (P := P) (W := W) (o2 := resO) (off := q.1) (ty := q.2) hq hq1 hn1 hn0 hxR
      exact fin V (by simp only [execOp]; rw [Sem.run_bind, h1]; rfl) h2
  case field t x f =>
    obtain ⟨q, hq1, z, hz, x', hx, rfl⟩ := hop
    simp only [qev] at hq
    obtain ⟨o1, hxR⟩ := rd_ok hr hx
    obtain ⟨V, h1, h2⟩ := fld_ok (P := P) (W := W) (o2 := resO) (off := q.1) (ty := q.2) hq hq1 hz hxR
    exact fin V (by simp only [execOp]; rw [Sem.run_bind, h1]; rfl) h2
  case indexAddr t x i =>
    split at hop
    · rename_i e hu
      simp only [Option.map_eq_some_iff, Option.bind_eq_some_iff] at hop
      obtain ⟨s, hs, x', hx, i', hi, rfl⟩ := hop
      simp only [qev] at hq
      obtain ⟨o1, hxR⟩ := rd_ok hr hx
      obtain ⟨o2, hiR⟩ := rd_ok hr hi
      obtain ⟨V, h1, h2⟩ := iaddr_ok (P := P) (W := W) (o2 := resO) hq hu hs hxR hiR
      exact fin V (by simp only [execOp]; rw [Sem.run_bind, h1]; rfl) h2
    · rename_i n e hu
      simp only [Option.bind_eq_some_iff] at hop
      obtain ⟨s, hs, hop⟩ := hop
      split at hop
      · simp at hop
      · simp only [Option.map_eq_some_iff, Option.bind_eq_some_iff] at hop
        obtain ⟨x', hx, i', hi, rfl⟩ := hop
        simp only [qev] at hq
        obtain ⟨o1, hxR⟩ := rd_ok hr hx
        obtain ⟨o2, hiR⟩ := rd_ok hr hi
        obtain ⟨V, h1, h2⟩ := iaddrA_ok (P := P) (W := W) (o2 := resO) hq hu hs hxR hiR
        exact fin V (by simp only [execOp]; rw [Sem.run_bind, h1]; rfl) h2
    · simp at hop
  case index t x i =>
    split at hop
    · rename_i hu
      simp only [Option.map_eq_some_iff, Option.bind_eq_some_iff] at hop
      obtain ⟨x', hx, i', hi, rfl⟩ := hop
      simp only [qev] at hq
      obtain ⟨o1, hxR⟩ := rd_ok hr hx
      obtain ⟨o2, hiR⟩ := rd_ok hr hi
      obtain ⟨V, h1, h2⟩ := idxS_ok (P := P) (W := W) (o2 := resO) hu hq hxR hiR
      exact fin V (by simp only [execOp]; rw [Sem.run_bind, h1]; rfl) h2
    · rename_i n e hu
      simp only [Option.bind_eq_some_iff] at hop
      obtain ⟨z, hz, hop⟩ := hop
      split at hop
      case isFalse => simp at hop
      rename_i hsz
      simp only [Option.map_eq_some_iff, Option.bind_eq_some_iff] at hop
      obtain ⟨x', hx, i', hi, rfl⟩ := hop
      simp only [qev] at hq
      obtain ⟨o1, hxR⟩ := rd_ok hr hx
      obtain ⟨o2, hiR⟩ := rd_ok hr hi
      obtain ⟨V, h1, h2⟩ := idxA_ok (P := P) (W := W) (o2 := resO) hu hz rfl hsz hq hxR hiR
      exact fin V (by simp only [execOp]; rw [Sem.run_bind, h1]; rfl) h2
    · simp at hop
  case extract x i =>
    obtain ⟨x', hx, rfl⟩ := hop
    simp only [qev] at hq
    obtain ⟨o1, hxR⟩ := rd_ok hr hx
    obtain ⟨V, h1, h2⟩ := ext_ok (P := P) (W := W) (o2 := resO) hq hxR
    exact fin V (by simp only [execOp]; rw [Sem.run_bind, h1]; rfl) h2
  case call c =>
    split at hop
    · rename_i f hcal
      simp only [Option.map_eq_some_iff] at hop
      obtain ⟨l, hl, rfl⟩ := hop
      simp only [qev, Option.bind_eq_some_iff] at hq
      obtain ⟨args, ha, hq⟩ := hq
      rw [mapM_mapO, mapO_map] at ha
      have hA := opds_ok hr hl
      have := hc f (l.map (rd σ)) args v g a.tmps W (c.args.map a.eval) ha [] (by simpa using hq) hr (by simpa using hA) #[] rfl (by simp [AnyRs]) ⟨dst, .call c, ty, pos, after, guard⟩ a next Q rfl hn
      unfold Oper.wp
      simp only [execOp, resolve, hcal, Act.eval, Deferred.ofValue, Sem.run_bind, Sem.run_pure, Result.andThen_ok, invoke]
      simpa using this
    · rename_i gg hne hcal
      simp only [Option.map_eq_some_iff, Option.bind_eq_some_iff] at hop
      obtain ⟨g', hg', l, hl, rfl⟩ := hop
      simp only [qev] at hq
      obtain ⟨og, hgR⟩ := rd_ok hr hg'
      split at hq
      · rename_i f caps hf
        rw [hf] at hgR
        simp only [SR] at hgR
        obtain ⟨cs, hcs, hcR⟩ := hgR
        split at hq
        case isFalse => simp at hq
        rename_i hcap
        simp only [Option.bind_eq_some_iff] at hq
        obtain ⟨args, ha, hq⟩ := hq
        rw [mapM_mapO, mapO_map] at ha
        have hA := opds_ok hr hl
        have := hc f (l.map (rd σ)) args v g a.tmps W (c.args.map a.eval) ha caps hq hr (by simpa using hA) cs hcap (SRs.any hcR) ⟨dst, .call c, ty, pos, after, guard⟩ a next Q rfl hn
        unfold Oper.wp
        simp only [execOp, resolve, hcal, hcs, Deferred.ofValue, Sem.run_bind, Sem.run_pure, Result.andThen_ok, invoke]
        simpa using this
      · simp at hq
    · rename_i hcal
      split at hop
      · rename_i t x hts hxs
        split at hop
        · rename_i e hu
          simp only [Option.map_eq_some_iff] at hop
          obtain ⟨x', hx, rfl⟩ := hop
          simp only [qev, Option.map_eq_some_iff] at hq
          obtain ⟨n, hn0, rfl⟩ := hq
          obtain ⟨o1, hxR⟩ := rd_ok hr hx
          have e1 : c.argTypes = #[t] := by rw [← Array.toArray_toList (xs := c.argTypes), hts]
          have e2 : c.args = #[x] := by rw [← Array.toArray_toList (xs := c.args), hxs]
          refine fin (.int .i64 n) ?_ (by simp only [SR]; exact PR_int _ _ _)
          simp only [execOp, resolve, hcal, Sem.run_bind, Sem.run_pure, Result.andThen_ok, invoke, builtin, e1, e2]
          rw [show Array.map a.eval #[x] = #[a.eval x] by simp, len_ok hn0 (by simpa using ⟨e, hu⟩) hxR ty]
          rfl
        · rename_i hu
          simp only [Option.map_eq_some_iff] at hop
          obtain ⟨x', hx, rfl⟩ := hop
          simp only [qev, Option.map_eq_some_iff] at hq
          obtain ⟨n, hn0, rfl⟩ := hq
          obtain ⟨o1, hxR⟩ := rd_ok hr hx
          have e1 : c.argTypes = #[t] := by rw [← Array.toArray_toList (xs := c.argTypes), hts]
          have e2 : c.args = #[x] := by rw [← Array.toArray_toList (xs := c.args), hxs]
          refine fin (.int .i64 n) ?_ (by simp only [SR]; exact PR_int _ _ _)
          simp only [execOp, resolve, hcal, Sem.run_bind, Sem.run_pure, Result.andThen_ok, invoke, builtin, e1, e2]
          rw [show Array.map a.eval #[x] = #[a.eval x] by simp, len_ok hn0 (by simpa using hu) hxR ty]
          rfl
        · simp at hop
      · simp at hop
    · split at hop
      · simp only [Option.bind_eq_some_iff] at hop
        obtain ⟨e, he, i, hi, z, hz, hop⟩ := hop
        split at hop
        · simp at hop
        split at hop
        · simp only [Option.bind_eq_some_iff] at hop
          obtain ⟨s', hs', hop⟩ := hop
          split at hop
          · simp only [Option.bind_eq_some_iff, Option.map_eq_some_iff] at hop
            obtain ⟨_, _, _, _, rfl⟩ := hop
            simp [qev] at hq
          · simp at hop
        · split at hop
          · simp only [Option.bind_eq_some_iff, Option.map_eq_some_iff] at hop
            obtain ⟨_, _, _, _, rfl⟩ := hop
            simp [qev] at hq
          · simp at hop
        · simp at hop
      · simp at hop
    · rename_i hcal
      simp only [Option.map_eq_some_iff] at hop
      obtain ⟨l, hl, rfl⟩ := hop
      simp only [qev] at hq
      have hA := opds_ok hr hl
      obtain ⟨V, h1, h2⟩ := mnmx_ok (P := P) (W := W) (o2 := resO) (xs := c.args.map a.eval) hq (by simpa using hA) c.argTypes ty
      refine fin V ?_ h2
      simp only [if_true] at h1
      simp only [execOp, resolve, hcal, Sem.run_bind, Sem.run_pure, Result.andThen_ok, invoke, builtin]
      rw [h1]
      rfl
    · rename_i hcal
      simp only [Option.map_eq_some_iff] at hop
      obtain ⟨l, hl, rfl⟩ := hop
      simp only [qev] at hq
      have hA := opds_ok hr hl
      obtain ⟨V, h1, h2⟩ := mnmx_ok (P := P) (W := W) (o2 := resO) (xs := c.args.map a.eval) hq (by simpa using hA) c.argTypes ty
      refine fin V ?_ h2
      simp only [Bool.false_eq_true, if_false] at h1
      simp only [execOp, resolve, hcal, Sem.run_bind, Sem.run_pure, Result.andThen_ok, invoke, builtin]
      rw [h1]
      rfl
    · simp at hop
end
end Go.VM

