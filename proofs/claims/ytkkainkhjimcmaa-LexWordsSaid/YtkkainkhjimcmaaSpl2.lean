import Derived.Test.YtkkainkhjimcmaaSpl
/-
The reference's small functions: in, Bare.
-/
namespace Go.Proofs.Ytkkainkhjimcmaa.L
open Go Go.VM
set_option linter.unusedVariables false
set_option maxRecDepth 100000
set_option maxHeartbeats 4000000
/-! ### in -/
def inB (c : Int) (s : List UInt8) : Bool := s.any fun x => decide (Int.ofNat x.toNat = c)
theorem any_tw (p : UInt8 → Bool) : ∀ s : List UInt8, s.any p = decide ((s.takeWhile fun x => !p x).length < s.length)
  | [] => rfl
  | c :: r => by
    rw [List.any_cons, List.takeWhile_cons]
    cases p c with
    | true => simp
    | false => simpa using any_tw p r
def st16 (c : Int) (s : List UInt8) (k : Int) : St := { env := [(0, SV.p (PV.int IntKind.u8 c)), (1, SV.p (PV.str s)), (5, SV.p (PV.int IntKind.i64 k))], fr := [], hp := [], out := [] }
theorem run16 (c : Int) (s : List UInt8) (hs : s.length ≤ maxLen) : CallsTo (T m0) ⟨0, 0⟩ 16 [.p (.int .u8 c), .p (.str s)] [] [] (.p (.bool (inB c s)), [], []) := by
  have hM : maxLen = 9223372036854775807 := rfl
  refine CallsTo.fn okC_none allL_ok (vf := vf16) rfl ?_
  rw [← symA_std]
  unfold inB
  rw [any_tw]
  have hn : ∀ k x, k < s.length → s[k]? = some x → (!(decide (Int.ofNat x.toNat = c))) = true → @S.evS stdA (T m0) (fun _ _ _ _ _ => none) (fun _ _ => none) ⟨0, 0⟩ b16 (st16 c s (k : Nat)) = some (.normal, st16 c s ((k + 1 : Nat) : Int)) := by
    intro k x h1 h2 h3
    rw [← symA_std]
    have := it16_2 stdF (look fl) c s k x (std_lssT (by show (k : Int) < (s.length : Int); omega)) (std_leqT (by omega)) h2 (std_eqlF (by simpa using h3))
    rw [show stdF .ar .add .i64 (k : Int) 1 = ((k + 1 : Nat) : Int) by rw [std_add (by omega) (by omega)]; rfl] at this
    exact this
  have hle := tw_le (fun x => !(decide (Int.ofNat x.toNat = c))) s
  by_cases h : (s.takeWhile fun x => !(decide (Int.ofNat x.toNat = c))).length < s.length
  · rw [decide_eq_true h]
    have hL := scan_run (T := T m0) (ba := ⟨0, 0⟩) okC_none okL_none (b := b16) (fun k => st16 c s (k : Nat)) (Ex.ret, { env := [(4, SV.p (PV.bool true))], fr := [], hp := [], out := [] }) (by simp) s (fun x => !(decide (Int.ofNat x.toNat = c))) hn
      (fun e => by omega) (fun x h1 h2 h3 => by
        rw [← symA_std]
        exact it16_1 stdF (look fl) c s _ x (std_lssT (by show ((s.takeWhile fun x => !(decide (Int.ofNat x.toNat = c))).length : Int) < (s.length : Int); omega)) (std_leqT (by omega)) h2 (std_eqlT (by simpa using h3)))
    exact sem16t_0 stdF (look fl) (allL (T m0) ⟨0, 0⟩) c s 0 (allL_eq hL)
  · rw [decide_eq_false h]
    have hL := scan_run (T := T m0) (ba := ⟨0, 0⟩) okC_none okL_none (b := b16) (fun k => st16 c s (k : Nat)) (Ex.exit 0, { env := [(0, SV.p (PV.int IntKind.u8 c)), (1, SV.p (PV.str s)), (5, SV.p (PV.int IntKind.i64 (s.length : Nat))), (9, SV.p (PV.bool false))], fr := [], hp := [], out := [] }) (by simp) s (fun x => !(decide (Int.ofNat x.toNat = c))) hn
      (fun e => by rw [← symA_std]; exact it16_0 stdF (look fl) c s (s.length : Nat) (std_lssF (by show ¬ ((s.length : Int) < (s.length : Int)); omega))) (fun x h1 h2 h3 => by omega)
    exact sem16f_0 stdF (look fl) (allL (T m0) ⟨0, 0⟩) c s (s.length : Nat) (allL_eq hL)
theorem p16 : QPrimOk Try.prog 16 (q16 okS inB) := pureQ prims_nil fun args v e => by
  unfold q16 at e; split at e
  · split at e
    · rename_i hg
      simp only [Option.some.injEq] at e; subst e
      exact ⟨rfl, rfl, [], [], run16 _ _ (okS_len hg)⟩
    · simp at e
  · simp at e

/-! ### Bare -/
/-- within a remark, behind a letter? -/
def offS (b : Bool) (c : UInt8) : Bool := if c = 10 then false else if c = 35 then true else b
def bareF : Bool → List UInt8 → List UInt8
  | _, [] => []
  | b, c :: r => (if offS b c then 32 else c) :: bareF (offS b c) r
def offL (b : Bool) (s : List UInt8) : Bool := s.foldl offS b
theorem bareF_len : ∀ (s : List UInt8) (b : Bool), (bareF b s).length = s.length
  | [], _ => rfl
  | c :: r, b => by simp only [bareF, List.length_cons, bareF_len r]
theorem bareF_append : ∀ (s u : List UInt8) (b : Bool), bareF b (s ++ u) = bareF b s ++ bareF (offL b s) u
  | [], _, _ => rfl
  | c :: r, u, b => by
    simp only [List.cons_append, bareF, bareF_append r u]
    rfl
theorem offL_snoc (b : Bool) (s : List UInt8) (c : UInt8) : offL b (s ++ [c]) = offS (offL b s) c := by
  unfold offL; rw [List.foldl_append]; rfl
/-- the bytes when so many are looked at -/
def bareK (s : List UInt8) (k : Nat) : List UInt8 := bareF false (s.take k) ++ s.drop k
theorem bareK_at {s : List UInt8} {k : Nat} {c : UInt8} (h : s[k]? = some c) : bareK s k = bareF false (s.take k) ++ c :: s.drop (k + 1) ∧
    bareK s (k + 1) = bareF false (s.take k) ++ (if offS (offL false (s.take k)) c then 32 else c) :: s.drop (k + 1) := by
  have hk := (List.getElem?_eq_some_iff.mp h).1
  have hx := (List.getElem?_eq_some_iff.mp h).2
  have hd : s.drop k = c :: s.drop (k + 1) := by rw [List.drop_eq_getElem_cons hk, hx]
  unfold bareK
  rw [hd]
  refine ⟨rfl, ?_⟩
  rw [List.take_add_one, h]
  show bareF false (s.take k ++ [c]) ++ _ = _
  rw [bareF_append]
  simp only [bareF, List.append_assoc, List.cons_append, List.nil_append]
theorem bareK_len (s : List UInt8) (k : Nat) (h : k ≤ s.length) : (bareK s k).length = s.length := by
  unfold bareK; rw [List.length_append, bareF_len, List.length_take, List.length_drop]; omega
theorem byteRows_len (l : List UInt8) : (byteRows l).length = l.length := by unfold byteRows; rw [List.length_map]
theorem bytes_at (A : List UInt8) (c : UInt8) (B : List UInt8) (k : Nat) (hk : A.length = k) : (byteRows (A ++ c :: B))[k]? = some [.int .u8 c.toNat] := by
  unfold byteRows
  rw [List.getElem?_map, ← hk, List.getElem?_append_right (Nat.le_refl _)]
  simp
theorem bytes_set (A : List UInt8) (c d : UInt8) (B : List UInt8) (k : Nat) (hk : A.length = k) : (byteRows (A ++ c :: B)).set k [.int .u8 d.toNat] = byteRows (A ++ d :: B) := by
  unfold byteRows
  rw [List.map_append, List.map_append, List.map_cons, List.map_cons, List.set_append_right _ _ (by rw [List.length_map]; omega), List.length_map, hk, Nat.sub_self]
  rfl
theorem bytesOf_rows : ∀ l : List UInt8, bytesOf (byteRows l) = some l
  | [] => rfl
  | c :: r => by
    have ih := bytesOf_rows r
    unfold byteRows at ih ⊢
    rw [List.map_cons]
    simp only [bytesOf, ih]
    simp
def st15 (s : List UInt8) (k : Nat) (x : List (Nat × SV)) : St := { env := [(3, SV.own 1 (byteRows (bareK s k))), (4, SV.p (PV.bool (offL false (s.take k)))), (8, SV.undef), (9, SV.al { root := Root.sl 3, off := 0, row := none } 1 0 (byteRows s).length), (10, SV.p (PV.int IntKind.i64 (s.length : Nat))), (11, SV.p (PV.int IntKind.i64 (k : Nat)))] ++ x, fr := [], hp := [], out := [] }
theorem step15 (s : List UInt8) (hs : s.length ≤ 10000) (k : Nat) (hk : k < s.length) : @S.evS stdA (T m0) (fun _ _ _ _ _ => none) (fun _ _ => none) ⟨0, 0⟩ b15 (st15 s k []) = some (.normal, st15 s (k + 1) []) := by
  rw [← symA_std]
  have hx : s[k]? = some s[k] := List.getElem?_eq_getElem hk
  generalize s[k] = c at hx
  obtain ⟨e1, e2⟩ := bareK_at hx
  have hA : (bareF false (s.take k)).length = k := by rw [bareF_len, List.length_take]; omega
  have ho : offL false (s.take (k + 1)) = offS (offL false (s.take k)) c := by rw [List.take_add_one, hx]; exact offL_snoc _ _ _
  have h0 : stdF .cmp .lss (k : Int) (s.length : Nat) = true := std_lssT (by omega)
  have h1 : stdF .cmp .leq 0 (k : Int) = true := std_leqT (by omega)
  have h2 : stdF .le (stdF .rlen (byteRows s)) (stdF .toN (k : Int)) = false := std_leF (by show ¬ (byteRows s).length ≤ k; rw [byteRows_len]; omega)
  have h3 : stdF .le (stdF .rlen (byteRows (bareK s k))) (stdF .toN (k : Int)) = false := std_leF (by show ¬ (byteRows (bareK s k)).length ≤ k; rw [byteRows_len, bareK_len s k (by omega)]; omega)
  have hz : stdF .add 0 (stdF .toN (k : Int)) = k := Nat.zero_add k
  have hg : stdF .rget (byteRows (bareK s k)) (stdF .add 0 (stdF .toN (k : Int))) = some [PV.int IntKind.u8 (Int.ofNat c.1.1.1)] := by
    rw [hz, e1]; exact bytes_at _ _ _ _ hA
  have ha : stdF .ar .add .i64 (k : Int) 1 = ((k + 1 : Nat) : Int) := by rw [std_add (by omega) (by omega)]; rfl
  have hset : stdF .rset (byteRows (bareK s k)) (stdF .add 0 (stdF .toN (k : Int))) [PV.int IntKind.u8 32] = byteRows (bareF false (s.take k) ++ 32 :: s.drop (k + 1)) := by
    rw [hz, e1]; exact bytes_set _ c 32 _ _ hA
  unfold st15
  rw [ho, e2]
  by_cases c1 : c = 10
  · have hs' : ∀ b, offS b c = false := fun b => by subst c1; rfl
    rw [hs', if_neg (by simp), ← e1]
    cases hb : offL false (s.take k) with
    | true =>
      have := it15t_2 stdF (look fl) (byteRows (bareK s k)) (byteRows s) true k (s.length : Nat) _ h0 h1 h2 hg (u8_ne (n := 35) (by subst c1; decide) (by decide)) (u8_eq (n := 10) c1 (by decide))
      rw [ha] at this; exact this
    | false =>
      have := it15f_2 stdF (look fl) (byteRows (bareK s k)) (byteRows s) true k (s.length : Nat) _ h0 h1 h2 hg (u8_ne (n := 35) (by subst c1; decide) (by decide)) (u8_eq (n := 10) c1 (by decide))
      rw [ha] at this; exact this
  · by_cases c2 : c = 35
    · have hs' : ∀ b, offS b c = true := fun b => by subst c2; rfl
      rw [hs', if_pos rfl]
      cases hb : offL false (s.take k) with
      | true =>
        have := it15t_3 stdF (look fl) (byteRows (bareK s k)) (byteRows s) true k (s.length : Nat) _ h0 h1 h2 hg (u8_eq (n := 35) c2 (by decide)) (u8_ne (n := 10) c1 (by decide)) h1 h3 hg hg
        rw [ha, hset] at this; exact this
      | false =>
        have := it15f_4 stdF (look fl) (byteRows (bareK s k)) (byteRows s) true k (s.length : Nat) _ h0 h1 h2 hg (u8_eq (n := 35) c2 (by decide)) (u8_ne (n := 10) c1 (by decide)) h1 h3 hg hg
        rw [ha, hset] at this; exact this
    · have hs' : ∀ b, offS b c = b := fun b => by unfold offS; rw [if_neg c1, if_neg c2]
      rw [hs']
      cases hb : offL false (s.take k) with
      | true =>
        have := it15t_4 stdF (look fl) (byteRows (bareK s k)) (byteRows s) true k (s.length : Nat) _ h0 h1 h2 hg (u8_ne (n := 35) c2 (by decide)) (u8_ne (n := 10) c1 (by decide)) h1 h3 hg hg
        rw [ha, hset] at this; exact this
      | false =>
        rw [if_neg (by simp), ← e1]
        have := it15f_3 stdF (look fl) (byteRows (bareK s k)) (byteRows s) true k (s.length : Nat) _ h0 h1 h2 hg (u8_ne (n := 35) c2 (by decide)) (u8_ne (n := 10) c1 (by decide))
        rw [ha] at this; exact this
theorem run15 (s : List UInt8) (hs : s.length ≤ 10000) : CallsTo (T m0) ⟨0, 0⟩ 15 [.p (.str s)] [] [] (.p (.str (bareF false s)), [], []) := by
  refine CallsTo.fn okC_none allL_ok (vf := vf15) rfl ?_
  rw [← symA_std]
  have hL := for_run (T := T m0) (ba := ⟨0, 0⟩) (c := fun _ _ _ _ _ => none) (Lp := fun _ _ => none) okC_none okL_none (b := b15) (fun k => st15 s k []) (Ex.exit 0, st15 s s.length [(12, SV.p (PV.bool false))]) (by simp) s.length
    (fun k hk => step15 s hs k hk) (by
      rw [← symA_std]
      unfold st15
      have h0 : stdF .cmp .lss ((s.length : Nat) : Int) (s.length : Nat) = false := std_lssF (by omega)
      cases hb : offL false (s.take s.length) with
      | true => exact it15t_0 stdF (look fl) (byteRows (bareK s s.length)) (byteRows s) true (s.length : Nat) (s.length : Nat) h0
      | false => exact it15f_0 stdF (look fl) (byteRows (bareK s s.length)) (byteRows s) true (s.length : Nat) (s.length : Nat) h0) 0 (Nat.zero_le _)
  have hl := allL_eq hL
  have e0 : bareK s 0 = s := rfl
  have en : bareK s s.length = bareF false s := by unfold bareK; rw [List.take_length, List.drop_length, List.append_nil]
  refine sem15_0 stdF (look fl) (allL (T m0) ⟨0, 0⟩) s [] (byteRows (bareK s s.length)) (byteRows s) (offL false (s.take s.length)) (s.length : Nat) (s.length : Nat) (bareF false s) (std_leT (by show s.length ≤ _; omega)) ?_ (std_leT (by show 0 + (byteRows _).length ≤ (byteRows _).length; omega)) ?_
  · rw [show (stdF .brows s) = byteRows s from rfl, show Int.ofNat (stdF .rlen (byteRows s)) = ((s.length : Nat) : Int) by show ((byteRows s).length : Int) = _; rw [byteRows_len]]
    exact hl
  · show bytesOf (((byteRows (bareK s s.length)).drop 0).take (byteRows (bareK s s.length)).length) = _
    rw [List.drop_zero, List.take_length, en]
    exact bytesOf_rows _
theorem p15 : QPrimOk Try.prog 15 (q15 okS (bareF false)) := pureQ prims_nil fun args v e => by
  unfold q15 at e; split at e
  · split at e
    · rename_i hg
      simp only [Option.some.injEq] at e; subst e
      exact ⟨rfl, rfl, [], [], run15 _ (of_decide_eq_true hg)⟩
    · simp at e
  · simp at e
theorem ps8_ok : PrimOk Try.prog (T (ps8 okS inB (bareF false))) := prims_q p16 (prims_q p15 prims_nil)
end Go.Proofs.Ytkkainkhjimcmaa.L
