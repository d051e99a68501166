import Derived.Test.YtkkainkhjimcmaaSpl6
/-
LexSplits: the reference's Split, whole; Same; the law.
-/
namespace Go.Proofs.Ytkkainkhjimcmaa.L
open Go Go.VM
set_option linter.unusedVariables false
set_option linter.unusedSectionVars false
set_option maxRecDepth 100000
set_option maxHeartbeats 4000000
def Sh.ok : Sh → Prop
  | .A => True
  | .B r => r ≠ []
  | .C r _ _ _ => r ≠ []
theorem Sh.push_ok (e : List PV) : ∀ x : Sh, (x.push e).ok
  | .A => by simp [Sh.push, Sh.ok]
  | .B _ => by simp [Sh.push, Sh.ok]
  | .C _ _ _ _ => by simp [Sh.push, Sh.ok]
/-- where the loop ends -/
def Fin8 (t : List UInt8) (v : List (List PV) × Int × Int) (r : Ex × St) : Prop :=
  (v.2.2 = 0 ∧ v.2.1 = 0 ∧ ∃ (x : Sh) (n : Int), x.ok ∧ x.rows = v.1 ∧ r = (.exit 0, s8 x t n [(20, bv false)] [])) ∨
  ((v.2.2 = 20 ∨ v.2.2 = 6) ∧ v.1 = [] ∧ ∃ (x : Sh) (k : Int), r = (.ret, r8 x v.2.1 k v.2.2))
/-- the tokens from a place on, blanks ahead of them -/
def G8 (t : List UInt8) (a : Sh × Nat) : List (List PV) × Int × Int := spl t (a.2 + blankF false (t.drop a.2)) a.1.rows
theorem noW {c : UInt8} {r : List UInt8} (h : isW c = false) : runN (c :: r) = 0 := by unfold runN; rw [List.takeWhile_cons, h]; rfl
theorem sg_W : ∀ c : UInt8, isSg c = true → isW c = false := fun c => (by decide +kernel : ∀ n : Fin (2 ^ 8), isSg ⟨⟨n⟩⟩ = true → isW ⟨⟨n⟩⟩ = false) c.toBitVec.toFin
def BW : VCode := .seq c8_0 (.seq c8_1 (.seq c8_2 W3))
theorem b8_eq : b8 = .seq c8h (.block 1 BW) := rfl
theorem loop8 (t : List UInt8) (ht : t.length ≤ 4096) (hno : ∀ y ∈ t, y ≠ 35) : ∀ a : Sh × Nat, (a.2 ≤ t.length ∧ a.1.rows.length ≤ a.2 ∧ a.1.ok) → ∃ r, ExecTo T8 ⟨0, 0⟩ (.loop b8) (s8 a.1 t a.2 [] []) r ∧ Fin8 t (G8 t a) r := by
  refine loop_rel (α := Sh × Nat) (c := fun _ _ _ _ _ => none) (Lp := L8) okC_none allL_ok (fun a => s8 a.1 t a.2 [] []) (fun a => t.length - a.2)
    (fun a r => Fin8 t (G8 t a) r) (fun a => a.2 ≤ t.length ∧ a.1.rows.length ≤ a.2 ∧ a.1.ok) ?_
  rintro ⟨x, i⟩ ⟨hi, hr, hok⟩
  simp only at hi hr hok
  change (∃ a' : Sh × Nat, E8 b8 (s8 x t i [] []) = some (.normal, s8 a'.1 t a'.2 [] []) ∧ _) ∨ (∃ ex σ', E8 b8 (s8 x t i [] []) = some (ex, σ') ∧ _)
  rw [b8_eq]
  have hT : t.length ≤ 10000 := by omega
  by_cases hlt : i < t.length
  · have hc : t[i]? = some t[i] := List.getElem?_eq_getElem hlt
    have hd : t.drop i = t[i] :: t.drop (i + 1) := List.drop_eq_getElem_cons hlt
    have hc35 : t[i] ≠ 35 := hno _ (List.getElem_mem hlt)
    generalize t[i] = c at hc hd hc35
    rw [E8_seq (g_h x t i hT hlt)]
    by_cases hb : isB c = true
    · left
      refine ⟨(x, i + 1), E8_blk (E8_out (g_0T x t i hT hc hb) (by simp)), ⟨hlt, by show x.rows.length ≤ i + 1; omega, hok⟩, by show t.length - (i + 1) < t.length - i; omega, fun r h => ?_⟩
      have e : G8 t (x, i) = G8 t (x, i + 1) := by
        unfold G8
        show spl t (i + blankF false (t.drop i)) x.rows = spl t (i + 1 + blankF false (t.drop (i + 1))) x.rows
        rw [hd, blankF_f, if_pos hb]
        congr 1
        omega
      rw [e]; exact h
    · have hb' : isB c = false := by simpa using hb
      have hG : G8 t (x, i) = spl t i x.rows := by
        unfold G8
        show spl t (i + blankF false (t.drop i)) x.rows = _
        rw [hd, blankF_f, if_neg hb, if_neg hc35]; rfl
      rw [hG]
      have hone := oneR_cons c (t.drop (i + 1))
      rw [← hd] at hone
      by_cases hh : hpF (t.drop i) = true
      · left
        have h2 : (t.drop i).take 2 = [45, 62] := beq_iff_eq.mp hh
        have c45 : c = 45 := by
          rw [hd] at h2
          simp only [List.take_succ_cons, List.cons.injEq] at h2
          exact h2.1
        have hz : runN (t.drop i) = 0 := by rw [hd]; exact noW (by subst c45; decide)
        have hl2 : i + 2 ≤ t.length := by
          have := congrArg List.length h2
          rw [List.length_take, List.length_drop] at this
          simp only [List.length_cons, List.length_nil] at this
          omega
        rw [hz, if_neg (by simp), if_pos ⟨c45, hh⟩] at hone
        have e0 : oE (t.drop i) = 0 := by unfold oE; rw [hone]
        have eX : oX (t.drop i) = [45, 62] := by unfold oX; rw [hone]
        have eR : rowT t i = [.int .i64 3, .str [45, 62], .int .i64 0, .int .i64 (i : Int)] := by unfold rowT oK oX oM; rw [hone]
        refine ⟨(x.push [.int .i64 3, .str [45, 62], .int .i64 0, .int .i64 (i : Int)], i + 2), E8_blk ((E8_seq (g_0F x t i hT hc hb')).trans (E8_out (g_1T x t i hT hc (by omega) hh) (by simp))), ⟨hl2, ?_, Sh.push_ok _ _⟩, by show t.length - (i + 2) < t.length - i; omega, fun r h => ?_⟩
        · show (x.push _).rows.length ≤ i + 2
          rw [Sh.push_rows, List.length_append]; simp only [List.length_cons, List.length_nil]; omega
        · have e : spl t i x.rows = G8 t (x.push [.int .i64 3, .str [45, 62], .int .i64 0, .int .i64 (i : Int)], i + 2) := by
            rw [spl_step hlt e0, eR]
            unfold G8 nextN
            rw [eX, Sh.push_rows]; rfl
          rw [e]; exact h
      · have hh' : hpF (t.drop i) = false := by simpa using hh
        by_cases hs : isSg c = true
        · left
          have hz : runN (t.drop i) = 0 := by rw [hd]; exact noW (sg_W c hs)
          rw [hz, if_neg (by simp), if_neg (by rw [hh']; simp), if_pos hs] at hone
          have e0 : oE (t.drop i) = 0 := by unfold oE; rw [hone]
          have eX : oX (t.drop i) = [c] := by unfold oX; rw [hone]
          have eR : rowT t i = [.int .i64 3, .str [c], .int .i64 0, .int .i64 (i : Int)] := by unfold rowT oK oX oM; rw [hone]
          refine ⟨(x.push [.int .i64 3, .str [c], .int .i64 0, .int .i64 (i : Int)], i + 1), E8_blk ((E8_seq (g_0F x t i hT hc hb')).trans ((E8_seq (g_1F x t i hT hc hh')).trans (E8_out (g_2T x t i hT hc (by omega) hs) (by simp)))), ⟨hlt, ?_, Sh.push_ok _ _⟩, by show t.length - (i + 1) < t.length - i; omega, fun r h => ?_⟩
          · show (x.push _).rows.length ≤ i + 1
            rw [Sh.push_rows, List.length_append]; simp only [List.length_cons, List.length_nil]; omega
          · have e : spl t i x.rows = G8 t (x.push [.int .i64 3, .str [c], .int .i64 0, .int .i64 (i : Int)], i + 1) := by
              rw [spl_step hlt e0, eR]
              unfold G8 nextN
              rw [eX, Sh.push_rows]; rfl
            rw [e]; exact h
        · have hs' : isSg c = false := by simpa using hs
          have pre : ∀ q, E8 W3 (s8 x t i [] [(50, bv false)]) = q → E8 BW (s8 x t i [(20, bv true)] []) = q := fun q hq =>
            (E8_seq (g_0F x t i hT hc hb')).trans ((E8_seq (g_1F x t i hT hc hh')).trans ((E8_seq (g_2F x t i hT hc hs')).trans hq))
          rcases word8 x t i hT (by omega) hc hs' hh' with ⟨e0, eX, hE⟩ | ⟨eE, hE⟩
          · left
            have hol := one_len _ e0
            rw [eX, List.length_drop] at hol
            refine ⟨(.C (x.rows ++ [rowT t i]) ((i + runN (t.drop i) : Nat) : Int) i ((i + runN (t.drop i) : Nat) : Int), i + runN (t.drop i)), E8_blkN (pre _ hE), ⟨by show i + runN (t.drop i) ≤ t.length; omega, ?_, by simp [Sh.ok]⟩, by show t.length - (i + runN (t.drop i)) < t.length - i; omega, fun r h => ?_⟩
            · show (x.rows ++ [rowT t i]).length ≤ i + runN (t.drop i)
              rw [List.length_append]; simp only [List.length_cons, List.length_nil]; omega
            · have e : spl t i x.rows = G8 t (.C (x.rows ++ [rowT t i]) ((i + runN (t.drop i) : Nat) : Int) i ((i + runN (t.drop i) : Nat) : Int), i + runN (t.drop i)) := by
                rw [spl_step hlt e0]
                unfold G8 nextN
                rw [eX]; rfl
              rw [e]; exact h
          · right
            have ne : oE (t.drop i) ≠ 0 := by rcases eE with e | e <;> rw [e] <;> decide
            refine ⟨_, _, E8_blkR (pre _ hE), by simp, .inr ?_⟩
            rw [spl_err hlt ne]
            exact ⟨eE, rfl, x, _, rfl⟩
  · right
    refine ⟨_, _, E8_out (g_hF x t i hT hlt) (by simp), by simp, .inl ?_⟩
    have e : G8 t (x, i) = (x.rows, 0, 0) := by
      unfold G8
      exact spl_end (by show ¬ i + _ < t.length; omega)
    rw [e]
    exact ⟨rfl, rfl, x, _, hok, rfl, rfl⟩
theorem run8 (s : List UInt8) : CallsTo T8 ⟨0, 0⟩ 8 [.p (.str s)] [] [] (splitV (splitR s), [], []) := by
  refine CallsTo.fn okC_none allL_ok (vf := vf8) rfl ?_
  rw [← symA_std]
  by_cases hl : 4096 < s.length
  · unfold splitR
    rw [if_pos hl]
    exact sem8xA_0 stdF (look fl) okS inB (bareF false) L8 s [] 0 0 0 0 0 [] (std_gtrT (by show (4096 : Int) < (s.length : Int); omega))
  · have hg : stdF .cmp .gtr (Int.ofNat (stdF .slen s)) 4096 = false := std_gtrF (by show ¬ (4096 : Int) < (s.length : Int); omega)
    have hG : okS s = true := decide_eq_true (by omega)
    rw [bare_split s (by omega)]
    obtain ⟨r, h1, h2⟩ := loop8 (bareF false s) (by rw [bareF_len]; omega) (bare_no s false) (.A, 0) ⟨Nat.zero_le _, by simp [Sh.rows], trivial⟩
    have hlp := allL_eq h1
    have e : G8 (bareF false s) (.A, 0) = spl (bareF false s) (blankF false (bareF false s)) [] := by
      unfold G8
      show spl _ (0 + blankF false ((bareF false s).drop 0)) [] = _
      rw [Nat.zero_add, List.drop_zero]
    rw [← e]
    generalize G8 (bareF false s) (.A, 0) = v at h2
    obtain ⟨v1, v2, v3⟩ := v
    rcases h2 with ⟨k1, k2, x, n, hok, hrows, rfl⟩ | ⟨k1, k2, x, k, rfl⟩
    · simp only at k1 k2 hrows
      subst k1 k2 hrows
      rcases x with _ | rows | ⟨rows, k0, k1, k2⟩
      · exact sem8xA_1 stdF (look fl) okS inB (bareF false) L8 s (bareF false s) n 0 0 0 0 [] hg hG hlp
      · have := sem8xB_1 stdF (look fl) okS inB (bareF false) L8 s (bareF false s) n 0 0 0 0 rows hg hG hlp (decide_eq_true rfl)
        have hne : rows ≠ [] := hok
        unfold splitV
        show _ = some ((SV.tup [if rows = [] then _ else _, _, _], [], []), [])
        rw [if_neg hne]
        exact this
      · have := sem8xC_1 stdF (look fl) okS inB (bareF false) L8 s (bareF false s) n 0 k0 k1 k2 rows hg hG hlp (decide_eq_true rfl)
        have hne : rows ≠ [] := hok
        unfold splitV
        show _ = some ((SV.tup [if rows = [] then _ else _, _, _], [], []), [])
        rw [if_neg hne]
        exact this
    · simp only at k1 k2
      subst k2
      rcases k1 with rfl | rfl
      · rcases x with _ | rows | ⟨rows, k0, k1, k2⟩
        · exact sem8yA_1 stdF (look fl) okS inB (bareF false) L8 s (bareF false s) v2 k 0 0 0 [] hg hG hlp
        · exact sem8yB_1 stdF (look fl) okS inB (bareF false) L8 s (bareF false s) v2 k 0 0 0 rows hg hG hlp
        · exact sem8yC_1 stdF (look fl) okS inB (bareF false) L8 s (bareF false s) v2 k 0 0 k2 rows hg hG hlp
      · rcases x with _ | rows | ⟨rows, k0, k1, k2⟩
        · exact sem8zA_1 stdF (look fl) okS inB (bareF false) L8 s (bareF false s) v2 k 0 0 0 [] hg hG hlp
        · exact sem8zB_1 stdF (look fl) okS inB (bareF false) L8 s (bareF false s) v2 k 0 0 0 rows hg hG hlp
        · exact sem8zC_1 stdF (look fl) okS inB (bareF false) L8 s (bareF false s) v2 k 0 0 k2 rows hg hG hlp
theorem p8 : QPrimOk Try.prog 8 (q8 sZ sP sAt sE) := pureQ ps8_ok fun args v e => by
  unfold q8 at e; split at e
  · simp only [Option.some.injEq] at e; subst e
    rename_i s
    have h := run8 s
    unfold splitV at h
    unfold sZ sP sAt sE
    cases hr : (splitR s).1 with
    | nil => rw [hr, if_pos rfl] at h; exact ⟨rfl, rfl, _, _, h⟩
    | cons x r => rw [hr, if_neg (by simp)] at h; exact ⟨rfl, rfl, _, _, h⟩
  · simp at e
/-! ### Same -/
def st9 (xs : List (List PV)) (k : Nat) : St := { env := [(0, SV.lent 4 xs), (1, SV.lent 4 xs), (2, iv 0), (14, SV.lent 4 xs), (15, iv (xs.length : Nat)), (16, iv (k : Nat))], fr := [(8, [])], hp := [], out := [] }
theorem run9 (xs : List (List PV)) (hl : xs.length ≤ 5000) (hx : ∀ e ∈ xs, rowIn 5000 e) : CallsTo (T m0) ⟨0, 0⟩ 9 [.lent 4 xs, .lent 4 xs, .p (.int .i64 0)] [] [] (.p (.bool true), [], []) := by
  refine CallsTo.fn okC_none allL_ok (vf := vf9) rfl ?_
  rw [← symA_std]
  have hL := for_run (T := T m0) (ba := ⟨0, 0⟩) (c := fun _ _ _ _ _ => none) (Lp := fun _ _ => none) okC_none okL_none (b := b9) (fun k => st9 xs k)
    (Ex.exit 0, { env := [(0, SV.lent 4 xs), (1, SV.lent 4 xs), (2, iv 0), (14, SV.lent 4 xs), (15, iv (xs.length : Nat)), (16, iv (xs.length : Nat)), (17, bv false)], fr := [(8, [])], hp := [], out := [] }) (by simp) xs.length
    (fun k hk => by
      rw [← symA_std]
      have hg : xs[k]? = some xs[k] := List.getElem?_eq_getElem hk
      obtain ⟨a, u, m, p, e, p0, p1⟩ := hx _ (List.getElem_mem hk)
      rw [e] at hg
      have h1 : stdF .cmp .leq 0 (k : Int) = true := std_leqT (by omega)
      have ha : stdF .ar .add .i64 (k : Int) 1 = ((k + 1 : Nat) : Int) := by rw [std_add (by omega) (by omega)]; rfl
      have hp : stdF .ar .add .i64 p 0 = p := by rw [std_add (by omega) (by omega)]; omega
      have hs : stdF .scmp .neq u u = false := by show (!(u == u)) = false; simp
      have := it9_1 stdF (look fl) xs k (xs.length : Nat) a u m p (std_lssT (by omega)) h1 hg h1 hg (std_neqF rfl) h1 hg hs h1 hg (std_neqF rfl) h1 hg (by rw [hp]; exact std_neqF rfl)
      rw [ha] at this
      exact this)
    (by rw [← symA_std]; exact it9_0 stdF (look fl) xs (xs.length : Nat) (xs.length : Nat) (std_lssF (by omega))) 0 (Nat.zero_le _)
  exact sem9X_0 stdF (look fl) (allL (T m0) ⟨0, 0⟩) xs (xs.length : Nat) (xs.length : Nat) (std_neqF rfl) (allL_eq hL)
theorem run9N : CallsTo (T m0) ⟨0, 0⟩ 9 [.p .nils, .p .nils, .p (.int .i64 0)] [] [] (.p (.bool true), [], []) := by
  refine CallsTo.fn okC_none allL_ok (vf := vf9) rfl ?_
  rw [← symA_std]
  have h0 : ExecTo (T m0) ⟨0, 0⟩ (.loop b9) _ _ := (evS_to (T := T m0) (ba := ⟨0, 0⟩) okC_none okL_none (by rw [← symA_std]; exact it9N_0 stdF (look fl) [] 0 0 (std_lssF (by decide)))).out (by simp)
  exact sem9N_0 stdF (look fl) (allL (T m0) ⟨0, 0⟩) [] 0 0 (std_neqF rfl) (allL_eq h0)
open Classical in
/-- tokens that are compared with themselves -/
noncomputable def sQ (xs ys : List (List PV)) : Bool := decide (xs = ys ∧ xs.length ≤ 5000 ∧ ∀ e ∈ xs, rowIn 5000 e)
open Classical in
theorem sQ_iff (xs ys : List (List PV)) : sQ xs ys = true ↔ xs = ys ∧ xs.length ≤ 5000 ∧ ∀ e ∈ xs, rowIn 5000 e := by
  unfold sQ; exact decide_eq_true_iff
theorem p9 : QPrimOk Try.prog 9 (q9 sQ) := pureQ prims_nil fun args v e => by
  unfold q9 at e; split at e
  · split at e
    · rename_i hq
      simp only [Option.some.injEq] at e; subst e
      obtain ⟨rfl, h1, h2⟩ := (sQ_iff _ _).mp hq
      exact ⟨rfl, rfl, [], [], run9 _ h1 h2⟩
    · simp at e
  · simp only [Option.some.injEq] at e; subst e
    exact ⟨rfl, rfl, [], [], run9N⟩
  · simp at e
theorem ps3s_ok : PrimOk Try.prog (T (ps3s sZ sP sAt sE sQ)) := prims_q aw_true (prims_q p7 (prims_q p8 (prims_q p9 prims_nil)))
/-! ### the law -/
theorem sQ_self (s : List UInt8) : sQ (sP s) (sP s) = true := by
  refine (sQ_iff _ _).mpr ⟨rfl, ?_⟩
  by_cases h : s.length ≤ 4096
  · obtain ⟨h1, h2⟩ := sP_rows s h
    refine ⟨by omega, fun e he => ?_⟩
    obtain ⟨k, u, m, p, e1, p0, p1⟩ := h2 e he
    exact ⟨k, u, m, p, e1, p0, by omega⟩
  · have e : sP s = [] := by unfold sP splitR; rw [if_pos (by omega)]
    rw [e]
    exact ⟨by simp, by simp⟩
theorem run3 (s : List UInt8) : ∃ k hp' out', callN (T (ps3s sZ sP sAt sE sQ)) k ⟨0, 0⟩ 3 [.p (.str s)] [] [] = some (.p (.bool true), hp', out') := by
  refine runs_of okC_none okL_none (vf := vf3) rfl ?_
  rw [← symA_std]
  have sc : ∀ n : Int, stdF .cmp .eql n n = true := fun n => std_eqlT rfl
  by_cases hl : 4200 < s.length
  · have hg : stdF .cmp .gtr (Int.ofNat (stdF .slen s)) 4200 = true := std_gtrT (by show (4200 : Int) < (s.length : Int); omega)
    have h3 : stdF .le (stdF .toN 4200) (stdF .slen s) = true := std_leT (by show 4200 ≤ s.length; omega)
    cases hz : sZ (stdF .scut s 0 (stdF .toN 4200)) with
    | true => rw [sem3t_1 stdF (look fl) sZ sP sAt sE sQ s hg rfl rfl h3 hz hz (sc _) (sc _)]; rfl
    | false =>
      have hq := sQ_self (stdF .scut s 0 (stdF .toN 4200))
      rw [sem3f_1 stdF (look fl) sZ sP sAt sE sQ s hg rfl rfl h3 hz hz (sc _) (sc _) (le_all _) (le_all _) (by rw [rp_all']; exact hq)]; rfl
  · have hg : stdF .cmp .gtr (Int.ofNat (stdF .slen s)) 4200 = false := std_gtrF (by show ¬ (4200 : Int) < (s.length : Int); omega)
    cases hz : sZ s with
    | true => rw [sem3t_0 stdF (look fl) sZ sP sAt sE sQ s hg hz hz (sc _) (sc _)]; rfl
    | false =>
      have hq := sQ_self s
      rw [sem3f_0 stdF (look fl) sZ sP sAt sE sQ s hg hz hz (sc _) (sc _) (le_all _) (le_all _) (by rw [rp_all']; exact hq)]; rfl
theorem hrun3 : ∀ args, argsOk [(false, [Kd.str])] args → ∃ k hp' out', callN (T (ps3s sZ sP sAt sE sQ)) k ⟨0, 0⟩ 3 args [] [] = some (.p (.bool true), hp', out') := by
  intro args h
  obtain ⟨v0, r0, rfl, g0, h⟩ := argsOk_cons h
  obtain rfl := argsOk_nil h
  obtain ⟨c0, rfl, q0⟩ := argOk_one g0
  obtain ⟨a0, rfl, _⟩ := kd1_str q0
  exact run3 a0
end Go.Proofs.Ytkkainkhjimcmaa.L
