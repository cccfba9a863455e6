/-
  Every matrices, hand-made ones too: products, rows, rank, inverse, solution: the plain law.
-/
import Derived.Test.YtmkpcnmjhmdndaaGfFGfMatrices
import Derived.Test.YtmkpcnmjhmdndaaPlGfRef3
import Derived.Test.YtmkpcnmjhmdndaaRfC
set_option linter.unusedVariables false
set_option linter.unusedSimpArgs false
namespace Go.Rf.W.Pure
open Go Go.Rf Go.Rf.W Go.Rf.Lin

theorem live300x : granarylaw02_live 300 () = some true := by decide +kernel

theorem num_eq (x : Int) : granarylaw02_num x = some x := rfl

theorem refCheck_cases (m n : Int) (L : List Int) : (∃ e, granaryref02_Check (m, n, L) = some e ∧ ¬ e = 0) ∨
    (granaryref02_Check (m, n, L) = some 0 ∧ ∃ a b : Nat, m = a ∧ n = b ∧ 1 ≤ a ∧ a ≤ 64 ∧ 1 ≤ b ∧ b ≤ 64 ∧ L.length = a * b) := by
  by_cases h1 : m < 1
  · exact .inl ⟨2, by simp [granaryref02_Check, h1], by omega⟩
  by_cases h2 : 64 < m
  · exact .inl ⟨2, by simp [granaryref02_Check, h1, h2], by omega⟩
  by_cases h3 : n < 1
  · exact .inl ⟨2, by simp [granaryref02_Check, h1, h2, h3], by omega⟩
  by_cases h4 : 64 < n
  · exact .inl ⟨2, by simp [granaryref02_Check, h1, h2, h3, h4], by omega⟩
  obtain ⟨a, rfl⟩ : ∃ a : Nat, m = a := ⟨m.toNat, by omega⟩
  obtain ⟨b, rfl⟩ : ∃ b : Nat, n = b := ⟨n.toNat, by omega⟩
  have hb : a * b ≤ 64 * 64 := mul_bd (by omega) (by omega)
  have e1 : wrapF .i64 ((a : Int) * (b : Int)) = ((a * b : Nat) : Int) := wrap_mul (by omega)
  by_cases h5 : L.length = a * b
  · exact .inr ⟨by simp [granaryref02_Check, h1, h2, h3, h4, e1, h5], a, b, rfl, rfl, by omega, by omega, by omega, by omega, h5⟩
  · refine .inl ⟨23, ?_, by omega⟩
    have h6 : ¬ ((L.length : Int) = ((a * b : Nat) : Int)) := by omega
    simp only [granaryref02_Check, dF h1, dF h2, dF h3, dF h4, cond_false, Option.bind_some, e1, dF h6, Bool.not_false, cond_true]

theorem gfCheck_eq (m n : Int) (L : List Int) : gf_Check (m, n, L) = granaryref02_Check (m, n, L) := by
  unfold gf_Check granaryref02_Check
  dsimp only
  rw [side_eq, side_eq]
  by_cases h1 : m < 1
  · have d1 : decide ((1 : Int) ≤ m ∧ m ≤ 64) = false := by rw [decide_eq_false_iff_not]; omega
    simp [h1, d1]
  by_cases h2 : 64 < m
  · have d1 : decide ((1 : Int) ≤ m ∧ m ≤ 64) = false := by rw [decide_eq_false_iff_not]; omega
    simp [h1, h2, d1]
  have d1 : decide ((1 : Int) ≤ m ∧ m ≤ 64) = true := by rw [decide_eq_true_eq]; omega
  by_cases h3 : n < 1
  · have d2 : decide ((1 : Int) ≤ n ∧ n ≤ 64) = false := by rw [decide_eq_false_iff_not]; omega
    simp [h1, h2, h3, d1, d2]
  by_cases h4 : 64 < n
  · have d2 : decide ((1 : Int) ≤ n ∧ n ≤ 64) = false := by rw [decide_eq_false_iff_not]; omega
    simp [h1, h2, h3, h4, d1, d2]
  have d2 : decide ((1 : Int) ≤ n ∧ n ≤ 64) = true := by rw [decide_eq_true_eq]; omega
  rw [d1, d2, dF h1, dF h2, dF h3, dF h4]
  rfl

theorem check_v (m n : Int) (L : List Int) : gf_Check_v1 (m, n, L) = gf_Check (m, n, L) := rfl

theorem lawOwn_ok {m n : Int} {L : List Int} (h : L.length ≤ 4096) : granarylaw02_own (m, n, L) = some (m, n, L) := by
  have e2 : fits 1 L.length = true := by simp [fits]; omega
  simp only [granarylaw02_own, e2, cond_true]

theorem wide_cases (m n : Int) (L : List Int) : granarylaw02_wide (m, n, L) = some true ∨ (granarylaw02_wide (m, n, L) = some false ∧ L.length ≤ 4000 ∧ (granaryref02_Check (m, n, L) = some 0 → m ≤ 12 ∧ n ≤ 12)) := by
  obtain ⟨e, he⟩ : ∃ e, granaryref02_Check (m, n, L) = some e := by
    rcases refCheck_cases m n L with ⟨e, h, _⟩ | ⟨h, _⟩
    · exact ⟨e, h⟩
    · exact ⟨0, h⟩
  unfold granarylaw02_wide
  dsimp only
  rw [he]
  by_cases h1 : (4000 : Int) < ((L.length : Nat) : Int)
  · rw [dT h1]; exact .inl rfl
  · rw [dF h1]
    by_cases h2 : e = 0
    · subst h2
      by_cases h3 : (12 : Int) < m
      · rw [dT h3]; exact .inl rfl
      · by_cases h4 : (12 : Int) < n
        · rw [dF h3, dT h4]; exact .inl rfl
        · rw [dF h3, dF h4]; exact .inr ⟨rfl, by omega, fun _ => by omega⟩
    · rw [cond_false, Option.bind_some, dF h2]; exact .inr ⟨rfl, by omega, fun h => absurd (Option.some.inj h) h2⟩

theorem sameV2_refl (m n : Int) (L : List Int) : granaryref02_Same_v2 (m, n, L, m, n, L) = some true := by simp [granaryref02_Same_v2]

theorem fill_loop {N : Nat} (a b : Int) : ∀ (d f j : Nat) (L : List Int), j + d = L.length → L.length ≤ 1000000 → d < f → ∃ r, loopF (granarylaw02_GfMatrices_b0 N) f ((j : Int), L, a, b) = some r := by
  intro d
  induction d with
  | zero =>
    intro f j L hk hl hf
    obtain ⟨f, rfl⟩ : ∃ g, f = g + 1 := ⟨f - 1, by omega⟩
    have : ¬ ((j : Int) < ((L.length : Nat) : Int)) := by omega
    exact ⟨(L, a, b), by simp only [loopF, granarylaw02_GfMatrices_b0, dF this, cond_false]⟩
  | succ d ih =>
    intro f j L hk hl hf
    obtain ⟨f, rfl⟩ : ∃ g, f = g + 1 := ⟨f - 1, by omega⟩
    obtain ⟨r, hr⟩ := ih f (j + 1) (L.set j 238) (by rw [List.length_set]; omega) (by rw [List.length_set]; omega) (by omega)
    refine ⟨r, ?_⟩
    rw [← hr]
    have z1 : ((j : Int) < ((L.length : Nat) : Int)) := by omega
    have z2 : (0 : Int) ≤ (j : Int) := by omega
    have z3 : j < L.length := by omega
    simp only [loopF, granarylaw02_GfMatrices_b0, dT z1, dT z2, dT z3, Bool.and_self, cond_true, Int.toNat_natCast, wrap_succ (show j ≤ 1000000 by omega)]

/-- What the law asks, once all pairs are known to be the same. -/
theorem main {N : Nat} (hlive : granarylaw02_live N () = some true) {m n p q e : Int} {J K W Y : List Int} (w1 : granarylaw02_wide (m, n, J) = some false) (w2 : granarylaw02_wide (p, q, K) = some false)
    (lJ : J.length ≤ 4000) (lK : K.length ≤ 4000) (lW : W.length ≤ 100) (lY : Y.length ≤ 4000) (hk : granaryref02_Check (m, n, J) = some e)
    {rP rI rR rT : Int × Int × Int × List Int} {rK : Int × Int} {rS : Int × List Int} {rM : Int × Int × Int × List Int}
    (p1 : gf_Product N (m, n, J, p, q, K) = some rP) (p2 : granaryref02_Product N (m, n, J, p, q, K) = some rP)
    (i1 : gf_Inverse N (m, n, J) = some rI) (i2 : granaryref02_Inverse N (m, n, J) = some rI)
    (r1 : gf_Rows N (m, n, J, W) = some rR) (r2 : granaryref02_Rows N (m, n, J, W) = some rR)
    (t1 : gf_Turn N (m, n, J) = some rT) (t2 : granaryref02_Turn N (m, n, J) = some rT)
    (k1 : gf_Rank N (m, n, J) = some rK) (k2 : granaryref02_Rank N (m, n, J) = some rK)
    (s1 : gf_Solve N (m, n, J, Y) = some rS) (s2 : granaryref02_Solve N (m, n, J, Y) = some rS)
    (m1 : gf_Make (m, n, J) = some rM) (m2 : rM.2.2.1 = e) (m3 : (e = 0 ∧ rM.1 = m ∧ rM.2.1 = n ∧ rM.2.2.2 = J) ∨ (¬ e = 0 ∧ rM.1 = 0 ∧ rM.2.1 = 0 ∧ rM.2.2.2 = []))
    (hf : ∃ r, granarylaw02_GfMatrices_l0 N ((0 : Int), rM.2.2.2, rM.1, rM.2.1) = some r) :
    granarylaw02_GfMatrices N (m, n, J, p, q, K, W, Y) = some true := by
  have d1 : ¬ ((100 : Int) < ((W.length : Nat) : Int)) := by omega
  have d2 : ¬ ((4000 : Int) < ((Y.length : Nat) : Int)) := by omega
  have f8 : fits 8 W.length = true := by simp [fits]; omega
  have f1 : fits 1 Y.length = true := by simp [fits]; omega
  have hce : gf_Check_v1 (m, n, J) = some e := by rw [check_v, gfCheck_eq, hk]
  obtain ⟨r, hr⟩ := hf
  unfold granarylaw02_GfMatrices
  dsimp only
  rw [w1, Option.bind_some, cond_false, w2, Option.bind_some, cond_false, dF d1, cond_false, dF d2, Option.bind_some, cond_false, lawOwn_ok (by omega), Option.bind_some, lawOwn_ok (by omega), Option.bind_some]
  dsimp only
  rw [p1, Option.bind_some, p2, Option.bind_some, i1, Option.bind_some, i2, Option.bind_some, same_refl, Option.bind_some, Bool.not_true, cond_false, same_refl, Option.bind_some, Bool.not_true, cond_false, hce, Option.bind_some, num_eq, Option.bind_some, hk, Option.bind_some,
    dT rfl, Bool.not_true, Option.bind_some, cond_false, f8, cond_true, r1, Option.bind_some, r2, Option.bind_some, t1, Option.bind_some, t2, Option.bind_some, same_refl, Option.bind_some, Bool.not_true, cond_false, same_refl, Option.bind_some, Bool.not_true, Option.bind_some, cond_false,
    k1, Option.bind_some, k2, Option.bind_some, f1, cond_true, s1, Option.bind_some, s2, Option.bind_some, dT rfl, Bool.not_true, cond_false, num_eq, Option.bind_some, dT rfl, Bool.not_true, cond_false, dT rfl, Bool.not_true, cond_false, num_eq, Option.bind_some, dT rfl, Bool.not_true, Option.bind_some, cond_false,
    m1, Option.bind_some, num_eq, Option.bind_some, m2, Option.bind_some, dT rfl, Bool.not_true, cond_false, Option.bind_some]
  rcases m3 with ⟨he, x1, x2, x3⟩ | ⟨he, x1, x2, x3⟩
  · subst he
    rw [x1, x2, x3] at hr ⊢
    rw [dT rfl, cond_true, sameV2_refl, Option.bind_some, Bool.not_true, cond_false, Option.bind_some, dT rfl, Bool.not_true, cond_false, Option.bind_some, cond_false, hr, Option.bind_some]
    repeat (first | rw [sameV2_refl] | rw [Option.bind_some] | rw [cond_true] | rw [hlive])
  · rw [x1, x2, x3] at hr ⊢
    rw [dF he, cond_false, Option.bind_some, dF he, Bool.not_false, cond_true, sameV2_refl, Option.bind_some, Bool.not_true, Option.bind_some, cond_false, hr, Option.bind_some]
    repeat (first | rw [sameV2_refl] | rw [Option.bind_some] | rw [cond_true] | rw [hlive])

theorem u8s {J : List Int} (h1 : EK.wf (.sl (.int .u8)) J) : ∀ y, y ∈ J → 0 ≤ y ∧ y < 256 := by
  intro y hy
  have h2 : EK.wf (.int .u8) y := h1.2 y hy
  have h3 : 0 ≤ y ∧ y ≤ 255 := by simpa [EK.wf, Lit.wf, IntKind.min, IntKind.max, IntKind.signed, IntKind.bits] using h2
  omega

theorem checked_bad1 {N : Nat} (hN : 100 ≤ N) {m n p q e : Int} {J K : List Int} (h1 : gf_Check (m, n, J) = some e) (he : ¬ e = 0) : gf_checked N [(m, (n, (J, ()))), (p, (q, (K, ())))] = some e := by
  obtain ⟨N, rfl⟩ : ∃ g, N = g + 3 := ⟨N - 3, by omega⟩
  have step : ∀ next, gf_checked_b0 (N + 3) next ([(m, (n, (J, ()))), (p, (q, (K, ())))], 2, 0) = some (.inl e) := by
    intro next
    simp [gf_checked_b0, h1, he]
  have hloop : gf_checked_l0 (N + 3) ([(m, (n, (J, ()))), (p, (q, (K, ())))], 2, 0) = some (.inl e) := by
    simp only [gf_checked_l0, loopF, step]
  show (Option.bind (gf_checked_l0 (N + 3) ([(m, (n, (J, ()))), (p, (q, (K, ())))], 2, 0)) _) = _
  rw [hloop]; rfl

theorem checked_bad2 {N : Nat} (hN : 100 ≤ N) {m n p q e : Int} {J K : List Int} (h1 : gf_Check (m, n, J) = some 0) (h2 : gf_Check (p, q, K) = some e) (he : ¬ e = 0) : gf_checked N [(m, (n, (J, ()))), (p, (q, (K, ())))] = some e := by
  obtain ⟨N, rfl⟩ : ∃ g, N = g + 3 := ⟨N - 3, by omega⟩
  have w0 : wrapF .i64 (1 : Int) = 1 := by decide
  have step : ∀ next, gf_checked_b0 (N + 3) next ([(m, (n, (J, ()))), (p, (q, (K, ())))], 2, 0) = next ([(m, (n, (J, ()))), (p, (q, (K, ())))], 2, 1) := by
    intro next
    simp [gf_checked_b0, h1, w0]
  have step2 : ∀ next, gf_checked_b0 (N + 3) next ([(m, (n, (J, ()))), (p, (q, (K, ())))], 2, 1) = some (.inl e) := by
    intro next
    simp [gf_checked_b0, h2, he]
  have hloop : gf_checked_l0 (N + 3) ([(m, (n, (J, ()))), (p, (q, (K, ())))], 2, 0) = some (.inl e) := by
    simp only [gf_checked_l0, loopF, step, step2]
  show (Option.bind (gf_checked_l0 (N + 3) ([(m, (n, (J, ()))), (p, (q, (K, ())))], 2, 0)) _) = _
  rw [hloop]; rfl

/-- Two matrices, both right or not. -/
theorem product_same {N : Nat} (hN : 300 ≤ N) {m n p q : Int} {J K : List Int} (hJ : ∀ y, y ∈ J → 0 ≤ y ∧ y < 256) (hK : ∀ y, y ∈ K → 0 ≤ y ∧ y < 256) : ∃ r, gf_Product N (m, n, J, p, q, K) = some r ∧ granaryref02_Product N (m, n, J, p, q, K) = some r := by
  have hpre : ∀ e, gf_checked N [(m, (n, (J, ()))), (p, (q, (K, ())))] = some e → ¬ e = 0 → gf_Product N (m, n, J, p, q, K) = some (0, 0, e, []) := by
    intro e h he
    unfold gf_Product
    dsimp only
    rw [show (cond (decide (2 ≤ List.length [(m, n, J, ()), (p, q, K, ())])) true false) = true from rfl, cond_true]
    rw [show List.take 2 (List.drop 0 [(m, n, J, ()), (p, q, K, ())]) = [(m, n, J, ()), (p, q, K, ())] from rfl, h, Option.bind_some, dF he, Bool.not_false, cond_true]
  rcases refCheck_cases m n J with ⟨e, k1, he⟩ | ⟨k1, r1, c1, rfl, rfl, a1, a2, a3, a4, l1⟩
  · have h1 := gfCheck_eq m n J
    rw [k1] at h1
    refine ⟨(0, 0, e, []), hpre e (checked_bad1 (by omega) h1 he) he, ?_⟩
    simp only [granaryref02_Product, granaryref02_both, k1, Option.bind_some, dF he, Bool.not_false, cond_true]
  · rcases refCheck_cases p q K with ⟨e, k2, he⟩ | ⟨k2, r2, c2, rfl, rfl, b1, b2, b3, b4, l2⟩
    · have h1 := gfCheck_eq (r1 : Int) (c1 : Int) J
      rw [k1] at h1
      have h2 := gfCheck_eq p q K
      rw [k2] at h2
      refine ⟨(0, 0, e, []), hpre e (checked_bad2 (by omega) h1 h2 he) he, ?_⟩
      simp only [granaryref02_Product, granaryref02_both, k1, k2, Option.bind_some, dF he, Bool.not_true, cond_false, Bool.not_false, cond_true, decide_true]
    · by_cases h : c1 = r2
      · subst h
        obtain ⟨A, iA⟩ := Is.of l1 hJ
        obtain ⟨B, iB⟩ := Is.of l2 hK
        obtain ⟨X, x1, x2⟩ := product_ok (N := N) (by omega) a1 a2 b3 b4 a3 a4 iA iB
        obtain ⟨Z, z1, z2⟩ := refProduct_ok (N := N) (by omega) a1 a2 b3 b4 a3 a4 iA iB
        obtain rfl : X = Z := Is.ext x2 z2 (Lin.Same.refl _ _ _)
        exact ⟨_, x1, z1⟩
      · exact ⟨_, product_side (by omega) (check_ok a1 a2 a3 a4 l1) (check_ok b1 b2 b3 b4 l2) h, refProduct_side k1 k2 h⟩

theorem core {m n p q : Int} {J K W Y : List Int} (hJ : ∀ y, y ∈ J → 0 ≤ y ∧ y < 256) (hK : ∀ y, y ∈ K → 0 ≤ y ∧ y < 256) (hY : ∀ y, y ∈ Y → 0 ≤ y ∧ y < 256)
    (w1 : granarylaw02_wide (m, n, J) = some false) (w2 : granarylaw02_wide (p, q, K) = some false) (hs : granaryref02_Check (m, n, J) = some 0 → m ≤ 12 ∧ n ≤ 12)
    (lJ : J.length ≤ 4000) (lK : K.length ≤ 4000) (lW : W.length ≤ 100) (lY : Y.length ≤ 4000) : granarylaw02_GfMatrices 300 (m, n, J, p, q, K, W, Y) = some true := by
  obtain ⟨rP, p1, p2⟩ := product_same (N := 300) (by omega) (m := m) (n := n) (p := p) (q := q) hJ hK
  rcases refCheck_cases m n J with ⟨e, k1, he⟩ | ⟨k1, a, b, rfl, rfl, a1, a2, a3, a4, l1⟩
  · have k2 := gfCheck_eq m n J
    rw [k1] at k2
    refine main live300x w1 w2 lJ lK lW lY k1 p1 p2 (rI := (0, 0, e, [])) ?_ ?_ (rR := (0, 0, e, [])) ?_ ?_ (rT := (0, 0, e, [])) ?_ ?_ (rK := (0, e)) ?_ ?_ (rS := (e, [])) ?_ ?_ (rM := (0, 0, e, [])) ?_ rfl (.inr ⟨he, rfl, rfl, rfl⟩) ?_
    · simp only [gf_Inverse, k2, Option.bind_some, dF he, Bool.not_false, cond_true]
    · simp only [granaryref02_Inverse, k1, Option.bind_some, dF he, Bool.not_false, cond_true]
    · simp only [gf_Rows, k2, Option.bind_some, dF he, Bool.not_false, cond_true]
    · simp only [granaryref02_Rows, k1, Option.bind_some, dF he, Bool.not_false, cond_true]
    · simp only [gf_Turn, k2, Option.bind_some, dF he, Bool.not_false, cond_true]
    · simp only [granaryref02_Turn, k1, Option.bind_some, dF he, Bool.not_false, cond_true]
    · simp only [gf_Rank, k2, Option.bind_some, dF he, Bool.not_false, cond_true]
    · simp only [granaryref02_Rank, k1, Option.bind_some, dF he, Bool.not_false, cond_true]
    · simp only [gf_Solve, k2, Option.bind_some, dF he, Bool.not_false, cond_true]
    · simp only [granaryref02_Solve, k1, Option.bind_some, dF he, Bool.not_false, cond_true]
    · simp only [gf_Make, k2, Option.bind_some, dF he, Bool.not_false, cond_true]
    · exact fill_loop 0 0 0 300 0 [] rfl (by simp) (by omega)
  · obtain ⟨s1, s2⟩ := hs k1
    obtain ⟨A, iA⟩ := Is.of l1 hJ
    have hin : ∃ r, gf_Inverse 300 ((a : Int), (b : Int), J) = some r ∧ granaryref02_Inverse 300 ((a : Int), (b : Int), J) = some r := by
      by_cases h : a = b
      · subst h; exact inverse_same (by omega) a1 a2 iA
      · exact ⟨_, inverse_side a1 a2 a3 a4 l1 h, refInverse_side a1 a2 a3 a4 l1 h⟩
    obtain ⟨rI, i1, i2⟩ := hin
    obtain ⟨rR, r1, r2⟩ := rows_same (N := 300) (W := W) (by omega) a1 a2 a3 a4 iA lW
    obtain ⟨X, t1, t3⟩ := turn_ok (N := 300) (by omega) a1 a2 a3 a4 iA
    obtain ⟨Z, t2, t4⟩ := refTurn_ok (N := 300) (by omega) a1 a2 a3 a4 iA
    obtain rfl : X = Z := Is.ext t3 t4 (Lin.Same.refl _ _ _)
    obtain ⟨c, c1, c2⟩ := rank_ok (N := 300) (by omega) a1 a2 a3 a4 iA
    obtain ⟨d, d1, d2⟩ := refRank_ok (N := 300) (by omega) a1 a2 a3 a4 iA
    obtain rfl := c2.unique d2
    have hso : ∃ r, gf_Solve 300 ((a : Int), (b : Int), J, Y) = some r ∧ granaryref02_Solve 300 ((a : Int), (b : Int), J, Y) = some r := by
      by_cases h : a = b ∧ Y.length = a
      · obtain ⟨h1, h2⟩ := h
        subst h1
        exact solve_same (by omega) a1 a2 iA h2 hY
      · exact ⟨_, (solve_side a1 a2 a3 a4 l1 h).1, (solve_side a1 a2 a3 a4 l1 h).2⟩
    obtain ⟨rS, y1, y2⟩ := hso
    have hab : a * b ≤ 144 := Nat.le_trans (Nat.mul_le_mul (show a ≤ 12 by omega) (show b ≤ 12 by omega)) (by omega)
    have hab1 : 1 * 1 ≤ a * b := mul_bd a1 a3
    refine main live300x w1 w2 lJ lK lW lY k1 p1 p2 i1 i2 r1 r2 t1 t2 c1 d1 y1 y2 (rM := ((a : Int), (b : Int), 0, J)) ?_ rfl (.inl ⟨rfl, rfl, rfl, rfl⟩) ?_
    · simp only [gf_Make, check_ok a1 a2 a3 a4 l1, Option.bind_some, decide_true, Bool.not_true, cond_false, clone_ok (L := J) (by omega) (by omega)]
    · exact fill_loop (a : Int) (b : Int) J.length 300 0 J (by omega) (by omega) (by omega)

theorem gfMatrices (x : EKs [(.pair (.pair (.int .i64) (.pair (.int .i64) (.pair (.sl (.int .u8)) .unit))) (.pair (.pair (.int .i64) (.pair (.int .i64) (.pair (.sl (.int .u8)) .unit))) (.pair (.sl (.int .i64)) (.pair (.sl (.int .u8)) .unit))))]) (hw : wfs [(.pair (.pair (.int .i64) (.pair (.int .i64) (.pair (.sl (.int .u8)) .unit))) (.pair (.pair (.int .i64) (.pair (.int .i64) (.pair (.sl (.int .u8)) .unit))) (.pair (.sl (.int .i64)) (.pair (.sl (.int .u8)) .unit))))] x) : ∃ N, granarylaw02_GfMatrices N (x.1.1, x.1.2.1, x.1.2.2.1, x.2.1.1, x.2.1.2.1, x.2.1.2.2.1, x.2.2.1, x.2.2.2.1) = some true := by
  obtain ⟨⟨m, n, J, u⟩, ⟨p, q, K, u'⟩, W, Y, u''⟩ := x
  change Int at m n p q
  change List Int at J K W Y
  have hw' : EK.wf (.pair (.pair (.int .i64) (.pair (.int .i64) (.pair (.sl (.int .u8)) .unit))) (.pair (.pair (.int .i64) (.pair (.int .i64) (.pair (.sl (.int .u8)) .unit))) (.pair (.sl (.int .i64)) (.pair (.sl (.int .u8)) .unit)))) ((m, n, J, u), (p, q, K, u'), W, Y, u'') := hw
  have hJ := u8s (J := J) hw'.1.2.2.1
  have hK := u8s (J := K) hw'.2.1.2.2.1
  have hY := u8s (J := Y) hw'.2.2.2.1
  refine ⟨300, ?_⟩
  show granarylaw02_GfMatrices 300 (m, n, J, p, q, K, W, Y) = some true
  rcases wide_cases m n J with w1 | ⟨w1, lJ, hs⟩
  · simp only [granarylaw02_GfMatrices, w1, Option.bind_some, cond_true, live300x]
  rcases wide_cases p q K with w2 | ⟨w2, lK, _⟩
  · simp only [granarylaw02_GfMatrices, w1, w2, Option.bind_some, cond_true, cond_false, live300x]
  by_cases d1 : (100 : Int) < ((W.length : Nat) : Int)
  · simp only [granarylaw02_GfMatrices, w1, w2, dT d1, Option.bind_some, cond_true, cond_false, live300x]
  by_cases d2 : (4000 : Int) < ((Y.length : Nat) : Int)
  · simp only [granarylaw02_GfMatrices, w1, w2, dF d1, dT d2, Option.bind_some, cond_true, cond_false, live300x]
  exact core hJ hK hY w1 w2 hs lJ lK (by omega) (by omega)

end Go.Rf.W.Pure
