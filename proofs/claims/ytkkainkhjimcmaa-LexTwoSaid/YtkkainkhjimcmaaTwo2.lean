import Derived.Test.YtkkainkhjimcmaaTwo
/-
LexTwo: its two loops.
-/
namespace Go.Proofs.Ytkkainkhjimcmaa.L
open Go Go.VM
set_option linter.unusedVariables false
set_option maxRecDepth 100000
set_option maxHeartbeats 4000000
/-- a token's row -/
def tokRow (e : List PV) : Prop := ∃ (k : Int) (t : List UInt8) (m p : Int), e = [.int .i64 k, .str t, .int .i64 m, .int .i64 p]
/-- a row moved by so many places -/
def moved (d : Int) : List PV → List PV
  | [a, b, c, .int .i64 p] => [a, b, c, .int .i64 (p + d)]
  | e => e
theorem std_scmpT (t : List UInt8) : stdF .scmp .eql t t = true := by
  show (t == t) = true
  exact beq_self_eq_true t
theorem std_rget {es : List (List PV)} {i : Nat} {e : List PV} (h : es[i]? = some e) : stdF .rget es (stdF .add 0 (stdF .toN (i : Int))) = some e := by
  show es[0 + i]? = some e
  rw [Nat.zero_add]; exact h
def st4x (xs zs : List (List PV)) (i : Int) : St := { env := [(5, SV.own 4 xs), (11, SV.own 4 zs), (31, SV.undef), (46, SV.undef), (115, SV.al { root := Root.sl 5, off := 0, row := none } 4 0 xs.length), (116, SV.p (PV.int IntKind.i64 (xs.length : Int))), (117, SV.p (PV.int IntKind.i64 i))], fr := [(15, []), (17, [])], hp := [], out := [] }
theorem loop4x (xs r : List (List PV)) (hx : ∀ e ∈ xs, tokRow e) (hl : xs.length ≤ 5000) :
    ExecTo (T (ps6 sZ sP sAt sE)) ⟨0, 0⟩ (.loop b4x) (st4x xs (xs ++ r) 0) (Ex.exit 2, { env := [(5, SV.own 4 xs), (11, SV.own 4 (xs ++ r)), (31, SV.undef), (46, SV.undef), (115, SV.al { root := Root.sl 5, off := 0, row := none } 4 0 xs.length), (116, SV.p (PV.int IntKind.i64 (xs.length : Int))), (117, SV.p (PV.int IntKind.i64 (xs.length : Int))), (118, SV.p (PV.bool false))], fr := [(15, []), (17, [])], hp := [], out := [] }) := by
  have h := for_run (T := T (ps6 sZ sP sAt sE)) (ba := ⟨0, 0⟩) (c := fun _ _ _ _ _ => none) (Lp := fun _ _ => none) okC_none okL_none (b := b4x) (fun k => st4x xs (xs ++ r) (k : Int)) (Ex.exit 2, { env := [(5, SV.own 4 xs), (11, SV.own 4 (xs ++ r)), (31, SV.undef), (46, SV.undef), (115, SV.al { root := Root.sl 5, off := 0, row := none } 4 0 xs.length), (116, SV.p (PV.int IntKind.i64 (xs.length : Int))), (117, SV.p (PV.int IntKind.i64 (xs.length : Int))), (118, SV.p (PV.bool false))], fr := [(15, []), (17, [])], hp := [], out := [] }) (by simp) xs.length ?_ ?_ 0 (Nat.zero_le _)
  · exact h
  · intro k hk
    rw [← symA_std]
    obtain ⟨a, t, m, p, he⟩ := hx xs[k] (List.getElem_mem hk)
    have h1 : xs[k]? = some [.int .i64 a, .str t, .int .i64 m, .int .i64 p] := by rw [List.getElem?_eq_getElem hk, he]
    have h2 : (xs ++ r)[k]? = some [.int .i64 a, .str t, .int .i64 m, .int .i64 p] := by rw [List.getElem?_append_left hk]; exact h1
    have := it4x_1 stdF (look fl) sZ sP sAt sE (fun _ _ => none) xs (xs ++ r) (k : Int) (xs.length : Int) a t m p a t m p (std_lssT (by omega)) (std_leqT (by omega)) (std_leF (by show ¬ xs.length ≤ k; omega)) (std_rget h1)
      (std_leqT (by omega)) (std_leF (by show ¬ (xs ++ r).length ≤ k; rw [List.length_append]; omega)) (std_rget h2) (std_eqlT rfl) (std_scmpT t) (std_eqlT rfl) (std_eqlT rfl)
    rw [show stdF .ar .add .i64 (k : Int) 1 = ((k + 1 : Nat) : Int) by rw [std_add (by omega) (by omega)]; rfl] at this
    exact this
  · rw [← symA_std]
    exact it4x_0 stdF (look fl) sZ sP sAt sE (fun _ _ => none) xs (xs ++ r) (xs.length : Int) (xs.length : Int) (std_lssF (by omega))

theorem loop4yN (a : List UInt8) (xs ys zs : List (List PV)) (hz : zs = ([] : List (List PV)) ++ ys.map (moved (a.length + 1))) (hy : ∀ e ∈ ys, ∃ (k : Int) (t : List UInt8) (m p : Int), e = [.int .i64 k, .str t, .int .i64 m, .int .i64 p] ∧ 0 ≤ p ∧ p ≤ 5000) (hl : ys.length ≤ 5000) (hx : xs.length ≤ 5000) (ha : a.length ≤ 5000) :
    ExecTo (T (ps6 sZ sP sAt sE)) ⟨0, 0⟩ (.loop b4y) { env := [(0, SV.p (PV.str a)), (5, SV.p PV.nils), (8, SV.own 4 ys), (11, SV.own 4 zs), (31, SV.p PV.nils), (37, SV.undef), (46, SV.undef), (91, SV.al { root := Root.sl 8, off := 0, row := none } 4 0 ys.length), (92, SV.p (PV.int IntKind.i64 (ys.length : Int))), (93, SV.p (PV.int IntKind.i64 0))], fr := [(15, []), (17, [])], hp := [], out := [] } (Ex.exit 0, { env := [(0, SV.p (PV.str a)), (5, SV.p PV.nils), (8, SV.own 4 ys), (11, SV.own 4 zs), (31, SV.p PV.nils), (37, SV.undef), (46, SV.undef), (91, SV.al { root := Root.sl 8, off := 0, row := none } 4 0 ys.length), (92, SV.p (PV.int IntKind.i64 (ys.length : Int))), (93, SV.p (PV.int IntKind.i64 (ys.length : Int))), (94, SV.p (PV.bool false))], fr := [(15, []), (17, [])], hp := [], out := [] }) := by
  have h := for_run (T := T (ps6 sZ sP sAt sE)) (ba := ⟨0, 0⟩) (c := fun _ _ _ _ _ => none) (Lp := fun _ _ => none) okC_none okL_none (b := b4y) (fun k => { env := [(0, SV.p (PV.str a)), (5, SV.p PV.nils), (8, SV.own 4 ys), (11, SV.own 4 zs), (31, SV.p PV.nils), (37, SV.undef), (46, SV.undef), (91, SV.al { root := Root.sl 8, off := 0, row := none } 4 0 ys.length), (92, SV.p (PV.int IntKind.i64 (ys.length : Int))), (93, SV.p (PV.int IntKind.i64 (k : Int)))], fr := [(15, []), (17, [])], hp := [], out := [] }) (Ex.exit 0, { env := [(0, SV.p (PV.str a)), (5, SV.p PV.nils), (8, SV.own 4 ys), (11, SV.own 4 zs), (31, SV.p PV.nils), (37, SV.undef), (46, SV.undef), (91, SV.al { root := Root.sl 8, off := 0, row := none } 4 0 ys.length), (92, SV.p (PV.int IntKind.i64 (ys.length : Int))), (93, SV.p (PV.int IntKind.i64 (ys.length : Int))), (94, SV.p (PV.bool false))], fr := [(15, []), (17, [])], hp := [], out := [] }) (by simp) ys.length ?_ ?_ 0 (Nat.zero_le _)
  · exact h
  · intro k hk
    rw [← symA_std]
    obtain ⟨q, t, m, p, he, hp0, hp1⟩ := hy ys[k] (List.getElem_mem hk)
    have h1 : ys[k]? = some [.int .i64 q, .str t, .int .i64 m, .int .i64 p] := by rw [List.getElem?_eq_getElem hk, he]
    have h2 : zs[(0 : Nat) + k]? = some [.int .i64 q, .str t, .int .i64 m, .int .i64 (p + (a.length + 1))] := by
      rw [hz, List.getElem?_append_right (by simp), List.getElem?_map]
      rw [show (0 : Nat) + k - ([] : List (List PV)).length = k by simp]
      rw [h1]; rfl
    have ei : stdF .ar .add .i64 (((0 : Nat) : Int) : Int) (k : Int) = (((0 : Nat) + k : Nat) : Int) := by rw [std_add (by omega) (by omega)]; omega
    have ea : stdF .ar .add .i64 (Int.ofNat (stdF .slen a)) 1 = (a.length : Int) + 1 := std_add (by show _ ≤ (a.length : Int) + 1; omega) (by show (a.length : Int) + 1 ≤ _; omega)
    have ep : stdF .ar .add .i64 p ((a.length : Int) + 1) = p + (a.length + 1) := std_add (by omega) (by omega)
    have hzl : zs.length = (0 : Nat) + ys.length := by rw [hz, List.length_append, List.length_map]; simp
    have := it4yN_1 stdF (look fl) sZ sP sAt sE (fun _ _ => none) a xs ys zs (k : Int) (ys.length : Int) q t m p q t m (p + (a.length + 1)) (std_lssT (by omega)) (std_leqT (by omega)) (std_leF (by show ¬ ys.length ≤ k; omega)) (std_rget h1)
      (by show stdF .cmp .leq 0 (stdF .ar .add .i64 (((0 : Nat) : Int) : Int) (k : Int)) = true; rw [ei]; exact std_leqT (by omega)) (by show stdF .le zs.length (stdF .toN (stdF .ar .add .i64 (((0 : Nat) : Int) : Int) (k : Int))) = false; rw [ei]; exact std_leF (by show ¬ zs.length ≤ (0 : Nat) + k; omega)) (by show stdF .rget zs (stdF .add 0 (stdF .toN (stdF .ar .add .i64 (((0 : Nat) : Int) : Int) (k : Int)))) = _; rw [ei]; exact std_rget h2) (std_eqlT rfl) (std_scmpT t) (std_eqlT rfl) (by rw [ea, ep]; exact std_eqlT rfl)
    rw [show stdF .ar .add .i64 (k : Int) 1 = ((k + 1 : Nat) : Int) by rw [std_add (by omega) (by omega)]; rfl] at this
    exact this
  · rw [← symA_std]
    exact it4yN_0 stdF (look fl) sZ sP sAt sE (fun _ _ => none) a xs ys zs (ys.length : Int) (ys.length : Int) (std_lssF (by omega))

theorem loop4yO (a : List UInt8) (xs ys zs : List (List PV)) (hz : zs = xs ++ ys.map (moved (a.length + 1))) (hy : ∀ e ∈ ys, ∃ (k : Int) (t : List UInt8) (m p : Int), e = [.int .i64 k, .str t, .int .i64 m, .int .i64 p] ∧ 0 ≤ p ∧ p ≤ 5000) (hl : ys.length ≤ 5000) (hx : xs.length ≤ 5000) (ha : a.length ≤ 5000) :
    ExecTo (T (ps6 sZ sP sAt sE)) ⟨0, 0⟩ (.loop b4y) { env := [(0, SV.p (PV.str a)), (5, SV.own 4 xs), (8, SV.own 4 ys), (11, SV.own 4 zs), (31, SV.undef), (37, SV.undef), (46, SV.undef), (91, SV.al { root := Root.sl 8, off := 0, row := none } 4 0 ys.length), (92, SV.p (PV.int IntKind.i64 (ys.length : Int))), (93, SV.p (PV.int IntKind.i64 0))], fr := [(15, []), (17, [])], hp := [], out := [] } (Ex.exit 0, { env := [(0, SV.p (PV.str a)), (5, SV.own 4 xs), (8, SV.own 4 ys), (11, SV.own 4 zs), (31, SV.undef), (37, SV.undef), (46, SV.undef), (91, SV.al { root := Root.sl 8, off := 0, row := none } 4 0 ys.length), (92, SV.p (PV.int IntKind.i64 (ys.length : Int))), (93, SV.p (PV.int IntKind.i64 (ys.length : Int))), (94, SV.p (PV.bool false))], fr := [(15, []), (17, [])], hp := [], out := [] }) := by
  have h := for_run (T := T (ps6 sZ sP sAt sE)) (ba := ⟨0, 0⟩) (c := fun _ _ _ _ _ => none) (Lp := fun _ _ => none) okC_none okL_none (b := b4y) (fun k => { env := [(0, SV.p (PV.str a)), (5, SV.own 4 xs), (8, SV.own 4 ys), (11, SV.own 4 zs), (31, SV.undef), (37, SV.undef), (46, SV.undef), (91, SV.al { root := Root.sl 8, off := 0, row := none } 4 0 ys.length), (92, SV.p (PV.int IntKind.i64 (ys.length : Int))), (93, SV.p (PV.int IntKind.i64 (k : Int)))], fr := [(15, []), (17, [])], hp := [], out := [] }) (Ex.exit 0, { env := [(0, SV.p (PV.str a)), (5, SV.own 4 xs), (8, SV.own 4 ys), (11, SV.own 4 zs), (31, SV.undef), (37, SV.undef), (46, SV.undef), (91, SV.al { root := Root.sl 8, off := 0, row := none } 4 0 ys.length), (92, SV.p (PV.int IntKind.i64 (ys.length : Int))), (93, SV.p (PV.int IntKind.i64 (ys.length : Int))), (94, SV.p (PV.bool false))], fr := [(15, []), (17, [])], hp := [], out := [] }) (by simp) ys.length ?_ ?_ 0 (Nat.zero_le _)
  · exact h
  · intro k hk
    rw [← symA_std]
    obtain ⟨q, t, m, p, he, hp0, hp1⟩ := hy ys[k] (List.getElem_mem hk)
    have h1 : ys[k]? = some [.int .i64 q, .str t, .int .i64 m, .int .i64 p] := by rw [List.getElem?_eq_getElem hk, he]
    have h2 : zs[xs.length + k]? = some [.int .i64 q, .str t, .int .i64 m, .int .i64 (p + (a.length + 1))] := by
      rw [hz, List.getElem?_append_right (by simp), List.getElem?_map]
      rw [show xs.length + k - xs.length = k by simp]
      rw [h1]; rfl
    have ei : stdF .ar .add .i64 ((xs.length : Int) : Int) (k : Int) = ((xs.length + k : Nat) : Int) := by rw [std_add (by omega) (by omega)]; omega
    have ea : stdF .ar .add .i64 (Int.ofNat (stdF .slen a)) 1 = (a.length : Int) + 1 := std_add (by show _ ≤ (a.length : Int) + 1; omega) (by show (a.length : Int) + 1 ≤ _; omega)
    have ep : stdF .ar .add .i64 p ((a.length : Int) + 1) = p + (a.length + 1) := std_add (by omega) (by omega)
    have hzl : zs.length = xs.length + ys.length := by rw [hz, List.length_append, List.length_map]
    have := it4yO_1 stdF (look fl) sZ sP sAt sE (fun _ _ => none) a xs ys zs (k : Int) (ys.length : Int) q t m p q t m (p + (a.length + 1)) (std_lssT (by omega)) (std_leqT (by omega)) (std_leF (by show ¬ ys.length ≤ k; omega)) (std_rget h1)
      (by show stdF .cmp .leq 0 (stdF .ar .add .i64 ((xs.length : Int) : Int) (k : Int)) = true; rw [ei]; exact std_leqT (by omega)) (by show stdF .le zs.length (stdF .toN (stdF .ar .add .i64 ((xs.length : Int) : Int) (k : Int))) = false; rw [ei]; exact std_leF (by show ¬ zs.length ≤ xs.length + k; omega)) (by show stdF .rget zs (stdF .add 0 (stdF .toN (stdF .ar .add .i64 ((xs.length : Int) : Int) (k : Int)))) = _; rw [ei]; exact std_rget h2) (std_eqlT rfl) (std_scmpT t) (std_eqlT rfl) (by rw [ea, ep]; exact std_eqlT rfl)
    rw [show stdF .ar .add .i64 (k : Int) 1 = ((k + 1 : Nat) : Int) by rw [std_add (by omega) (by omega)]; rfl] at this
    exact this
  · rw [← symA_std]
    exact it4yO_0 stdF (look fl) sZ sP sAt sE (fun _ _ => none) a xs ys zs (ys.length : Int) (ys.length : Int) (std_lssF (by omega))
end Go.Proofs.Ytkkainkhjimcmaa.L
