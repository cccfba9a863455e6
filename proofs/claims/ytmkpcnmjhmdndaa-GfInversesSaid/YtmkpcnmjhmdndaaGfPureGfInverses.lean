/-
  Inverses, ranks, products: the plain law.
-/
import Derived.Test.YtmkpcnmjhmdndaaGfFGfInverses
import Derived.Test.YtmkpcnmjhmdndaaPlGfProd
import Derived.Test.YtmkpcnmjhmdndaaRfC
set_option linter.unusedVariables false
set_option linter.unusedSimpArgs false
namespace Go.Rf.W.Pure
open Go Go.Rf Go.Rf.W Go.Rf.Lin

theorem live300i : granarylaw02_live 300 () = some true := by decide +kernel

theorem num_eq (x : Int) : granarylaw02_num x = some x := rfl
theorem d00 : decide ((0 : Int) = 0) = true := rfl
theorem d22 : decide ((22 : Int) = 0) = false := rfl
theorem d23 : decide ((23 : Int) = 0) = false := rfl
theorem dss (s : Int) : decide (s = s) = true := by simp
theorem bff : (false == false) = true := rfl
theorem btt : (true == true) = true := rfl

theorem refCheck_cases (m n : Int) (L : List Int) : (∃ e, granaryref02_Check (m, n, L) = some e ∧ ¬ e = 0) ∨
    (granaryref02_Check (m, n, L) = some 0 ∧ ∃ a b : Nat, m = a ∧ n = b ∧ 1 ≤ a ∧ a ≤ 64 ∧ 1 ≤ b ∧ b ≤ 64 ∧ L.length = a * b) := by
  by_cases h1 : m < 1
  · exact .inl ⟨2, by simp [granaryref02_Check, h1], by omega⟩
  by_cases h2 : 64 < m
  · exact .inl ⟨2, by simp [granaryref02_Check, h1, h2], by omega⟩
  by_cases h3 : n < 1
  · exact .inl ⟨2, by simp [granaryref02_Check, h1, h2, h3], by omega⟩
  by_cases h4 : 64 < n
  · exact .inl ⟨2, by simp [granaryref02_Check, h1, h2, h3, h4], by omega⟩
  obtain ⟨a, rfl⟩ : ∃ a : Nat, m = a := ⟨m.toNat, by omega⟩
  obtain ⟨b, rfl⟩ : ∃ b : Nat, n = b := ⟨n.toNat, by omega⟩
  have hb : a * b ≤ 64 * 64 := mul_bd (by omega) (by omega)
  have e1 : wrapF .i64 ((a : Int) * (b : Int)) = ((a * b : Nat) : Int) := wrap_mul (by omega)
  by_cases h5 : L.length = a * b
  · exact .inr ⟨by simp [granaryref02_Check, h1, h2, h3, h4, e1, h5], a, b, rfl, rfl, by omega, by omega, by omega, by omega, h5⟩
  · refine .inl ⟨23, ?_, by omega⟩
    have h6 : ¬ ((L.length : Int) = ((a * b : Nat) : Int)) := by omega
    simp only [granaryref02_Check, dF h1, dF h2, dF h3, dF h4, cond_false, Option.bind_some, e1, dF h6, Bool.not_false, cond_true]

theorem wide_total (m n : Int) (L : List Int) : ∃ b, granarylaw02_wide (m, n, L) = some b := by
  obtain ⟨e, he⟩ : ∃ e, granaryref02_Check (m, n, L) = some e := by
    rcases refCheck_cases m n L with ⟨e, h, _⟩ | ⟨h, _⟩
    · exact ⟨e, h⟩
    · exact ⟨0, h⟩
  unfold granarylaw02_wide
  dsimp only
  rw [he]
  by_cases h1 : (4000 : Int) < ((L.length : Nat) : Int)
  · rw [dT h1]; exact ⟨_, rfl⟩
  · rw [dF h1]
    by_cases h2 : e = 0
    · by_cases h3 : (12 : Int) < m
      · simp [h2, h3]
      · simp [h2, h3]
    · simp [h2]

theorem lawOwn_ok {m n : Int} {L : List Int} (h : L.length ≤ 4096) : granarylaw02_own (m, n, L) = some (m, n, L) := by
  have e2 : fits 1 L.length = true := by simp [fits]; omega
  simp only [granarylaw02_own, e2, cond_true]

theorem sameV2_refl (m n : Int) (L : List Int) : granaryref02_Same_v2 (m, n, L, m, n, L) = some true := by simp [granaryref02_Same_v2]
theorem same0_refl (m n : Int) (L : List Int) : granaryref02_Same (m, n, L, m, n, L) = some true := by simp [granaryref02_Same]

theorem core {N : Nat} (hN : 300 ≤ N) (hlive : granarylaw02_live N () = some true) {r1 c1 r2 c2 : Nat} {J K : List Int} {A B : Mt} (a1 : 1 ≤ r1) (a2 : r1 ≤ 64) (a3 : 1 ≤ c1) (a4 : c1 ≤ 64) (b1 : 1 ≤ r2) (b2 : r2 ≤ 64) (b3 : 1 ≤ c2) (b4 : c2 ≤ 64)
    (hJ : Is r1 c1 J A) (hK : Is r2 c2 K B) (w1 : granarylaw02_wide ((r1 : Int), (c1 : Int), J) = some false) (w2 : granarylaw02_wide ((r2 : Int), (c2 : Int), K) = some false)
    (k1 : granaryref02_Check ((r1 : Int), (c1 : Int), J) = some 0) (k2 : granaryref02_Check ((r2 : Int), (c2 : Int), K) = some 0) :
    granarylaw02_GfInverses N ((r1 : Int), (c1 : Int), J, (r2 : Int), (c2 : Int), K) = some true := by
  have hN1 : 100 ≤ N := by omega
  have lJ : J.length ≤ 4096 := by rw [hJ.len]; exact mul_bd a2 a4
  have lK : K.length ≤ 4096 := by rw [hK.len]; exact mul_bd b2 b4
  have oJ : ∀ m n, granarylaw02_own (m, n, J) = some (m, n, J) := fun m n => lawOwn_ok lJ
  have oK : ∀ m n, granarylaw02_own (m, n, K) = some (m, n, K) := fun m n => lawOwn_ok lK
  obtain ⟨r, e1, i1⟩ := rank_ok hN1 a1 a2 a3 a4 hJ
  obtain ⟨T, e2, i2⟩ := turn_ok hN1 a1 a2 a3 a4 hJ
  obtain ⟨s, e3, i3⟩ := rank_ok hN1 a3 a4 a1 a2 i2
  obtain rfl : s = r := i3.unique i1.tr
  have q1 : ¬ ((r1 : Int) < (s : Int)) := by have := i1.rows; omega
  have q2 : ¬ ((c1 : Int) < (s : Int)) := by have := i1.cols; omega
  obtain ⟨l, e4, i4⟩ := rank_ok hN1 b1 b2 b3 b4 hK
  -- the product
  have hP : ∃ P : Int × Int × Int × List Int, gf_Product N ((r1 : Int), (c1 : Int), J, (r2 : Int), (c2 : Int), K) = some P ∧
      ((P.2.2.1 = 23 ∧ c1 ≠ r2) ∨ (c1 = r2 ∧ ∃ L' k, P = ((r1 : Int), (c2 : Int), 0, L') ∧ Is r1 c2 L' (mm c1 A B) ∧ gf_Rank N ((r1 : Int), (c2 : Int), L') = some (((k : Nat) : Int), (0 : Int)) ∧ k ≤ s ∧ k ≤ l)) := by
    by_cases h : c1 = r2
    · subst h
      obtain ⟨L', p1, p2⟩ := product_ok hN1 a1 a2 b3 b4 a3 a4 hJ hK
      obtain ⟨k, p3, p4⟩ := rank_ok hN1 a1 a2 b3 b4 p2
      exact ⟨_, p1, .inr ⟨rfl, L', k, rfl, p2, p3, p4.mul_left i1, p4.mul_right i4⟩⟩
    · exact ⟨_, product_side hN1 (check_ok a1 a2 a3 a4 hJ.len) (check_ok b1 b2 b3 b4 hK.len) h, .inl ⟨rfl, h⟩⟩
  -- the inverse of a
  have hA : (∃ Q : Int × Int × Int × List Int, gf_Inverse N ((r1 : Int), (c1 : Int), J) = some Q ∧ decide (Q.2.2.1 = 0) = false ∧ (r1 = c1 → s < r1)) ∨
      (r1 = c1 ∧ s = r1 ∧ ∃ I Im, gf_Inverse N ((r1 : Int), (c1 : Int), J) = some ((r1 : Int), (r1 : Int), 0, I) ∧ Is r1 r1 I Im ∧ IsInv r1 A Im ∧ gf_Inverse N ((r1 : Int), (r1 : Int), I) = some ((r1 : Int), (r1 : Int), 0, J)) := by
    by_cases h : r1 = c1
    · subst h
      obtain ⟨r, j1, j2⟩ := inverse_ok hN1 a1 a2 hJ
      obtain rfl : r = s := j1.unique i1
      rcases j2 with ⟨j3, j4⟩ | ⟨j3, I, Im, j4, j5, j6⟩
      · exact .inl ⟨_, j4, rfl, fun _ => j3⟩
      · refine .inr ⟨rfl, j3, I, Im, j4, j5, j6, ?_⟩
        obtain ⟨q, g1, g2⟩ := inverse_ok hN1 a1 a2 j5
        have hq : q = r1 := j6.symm.rank g1
        rcases g2 with ⟨g3, g4⟩ | ⟨g3, X, Xm, g4, g5, g6⟩
        · omega
        · rw [g4, Is.ext g5 hJ (g6.unique j6.symm)]
    · exact .inl ⟨_, inverse_side a1 a2 a3 a4 hJ.len h, rfl, fun e => absurd e h⟩
  -- the inverse of b
  have hB : (∃ Q : Int × Int × Int × List Int, gf_Inverse N ((r2 : Int), (c2 : Int), K) = some Q ∧ decide (Q.2.2.1 = 0) = false) ∨
      (r2 = c2 ∧ ∃ I Im, gf_Inverse N ((r2 : Int), (c2 : Int), K) = some ((r2 : Int), (r2 : Int), 0, I) ∧ Is r2 r2 I Im ∧ IsInv r2 B Im) := by
    by_cases h : r2 = c2
    · subst h
      obtain ⟨r, j1, j2⟩ := inverse_ok hN1 b1 b2 hK
      rcases j2 with ⟨j3, j4⟩ | ⟨j3, I, Im, j4, j5, j6⟩
      · exact .inl ⟨_, j4, rfl⟩
      · exact .inr ⟨rfl, I, Im, j4, j5, j6⟩
    · exact .inl ⟨_, inverse_side b1 b2 b3 b4 hK.len h, rfl⟩
  obtain ⟨P, hp, hP2⟩ := hP
  unfold granarylaw02_GfInverses
  dsimp only
  rw [w1]
  repeat (first | rw [Option.bind_some] | rw [num_eq] | rw [d00] | rw [d22] | rw [d23] | rw [Bool.not_true] | rw [Bool.not_false] | rw [cond_true] | rw [cond_false] | rw [dss] | rw [bff] | rw [btt] | dsimp only)
  rw [w2]
  repeat (first | rw [Option.bind_some] | rw [num_eq] | rw [d00] | rw [d22] | rw [d23] | rw [Bool.not_true] | rw [Bool.not_false] | rw [cond_true] | rw [cond_false] | rw [dss] | rw [bff] | rw [btt] | dsimp only)
  rw [k1]
  repeat (first | rw [Option.bind_some] | rw [num_eq] | rw [d00] | rw [d22] | rw [d23] | rw [Bool.not_true] | rw [Bool.not_false] | rw [cond_true] | rw [cond_false] | rw [dss] | rw [bff] | rw [btt] | dsimp only)
  rw [k2]
  repeat (first | rw [Option.bind_some] | rw [num_eq] | rw [d00] | rw [d22] | rw [d23] | rw [Bool.not_true] | rw [Bool.not_false] | rw [cond_true] | rw [cond_false] | rw [dss] | rw [bff] | rw [btt] | dsimp only)
  rw [oJ]
  repeat (first | rw [Option.bind_some] | rw [num_eq] | rw [d00] | rw [d22] | rw [d23] | rw [Bool.not_true] | rw [Bool.not_false] | rw [cond_true] | rw [cond_false] | rw [dss] | rw [bff] | rw [btt] | dsimp only)
  rw [e1]
  repeat (first | rw [Option.bind_some] | rw [num_eq] | rw [d00] | rw [d22] | rw [d23] | rw [Bool.not_true] | rw [Bool.not_false] | rw [cond_true] | rw [cond_false] | rw [dss] | rw [bff] | rw [btt] | dsimp only)
  rw [e2]
  repeat (first | rw [Option.bind_some] | rw [num_eq] | rw [d00] | rw [d22] | rw [d23] | rw [Bool.not_true] | rw [Bool.not_false] | rw [cond_true] | rw [cond_false] | rw [dss] | rw [bff] | rw [btt] | dsimp only)
  rw [e3]
  repeat (first | rw [Option.bind_some] | rw [num_eq] | rw [d00] | rw [d22] | rw [d23] | rw [Bool.not_true] | rw [Bool.not_false] | rw [cond_true] | rw [cond_false] | rw [dss] | rw [bff] | rw [btt] | dsimp only)
  rw [dF q1]
  repeat (first | rw [Option.bind_some] | rw [num_eq] | rw [d00] | rw [d22] | rw [d23] | rw [Bool.not_true] | rw [Bool.not_false] | rw [cond_true] | rw [cond_false] | rw [dss] | rw [bff] | rw [btt] | dsimp only)
  rw [dF q2]
  repeat (first | rw [Option.bind_some] | rw [num_eq] | rw [d00] | rw [d22] | rw [d23] | rw [Bool.not_true] | rw [Bool.not_false] | rw [cond_true] | rw [cond_false] | rw [dss] | rw [bff] | rw [btt] | dsimp only)
  rw [oK]
  repeat (first | rw [Option.bind_some] | rw [num_eq] | rw [d00] | rw [d22] | rw [d23] | rw [Bool.not_true] | rw [Bool.not_false] | rw [cond_true] | rw [cond_false] | rw [dss] | rw [bff] | rw [btt] | dsimp only)
  rw [hp]
  repeat (first | rw [Option.bind_some] | rw [num_eq] | rw [d00] | rw [d22] | rw [d23] | rw [Bool.not_true] | rw [Bool.not_false] | rw [cond_true] | rw [cond_false] | rw [dss] | rw [bff] | rw [btt] | dsimp only)
  have hmid : (Option.bind ((cond (decide (P.2.2.1 = (0 : Int)))
      (Option.bind (gf_Rank N (P.1, P.2.1, P.2.2.2)) fun r29 =>
      (Option.bind (some ((r2 : Int), (c2 : Int), K)) fun r30 =>
      (Option.bind (gf_Rank N (r30.1, r30.2.1, r30.2.2)) fun r31 =>
      (Option.bind
      (cond (decide ((s : Int) < r29.1))
      (some true)
      (some (decide (r31.1 < r29.1))))
      fun r34 =>
      (cond r34
      (some (.inr (())))
      (some (.inl ())))))))
      (some (.inl ()))) : Option ((Unit) ⊕ (Unit))) fun x => some x) = some (.inl ()) := by
    rcases hP2 with ⟨h1, _⟩ | ⟨_, L', k, rfl, _, h3, h4, h5⟩
    · rw [h1, d23, cond_false]; rfl
    · have z1 : ¬ ((s : Int) < (k : Int)) := by omega
      have z2 : ¬ ((l : Int) < (k : Int)) := by omega
      dsimp only
      rw [d00, cond_true, h3, Option.bind_some, Option.bind_some]
      dsimp only
      rw [e4, Option.bind_some]
      dsimp only
      rw [dF z1, cond_false, dF z2, Option.bind_some, cond_false]
      rfl
  rw [Option.bind_fun_some] at hmid
  rw [hmid]
  repeat (first | rw [Option.bind_some] | rw [num_eq] | rw [d00] | rw [d22] | rw [d23] | rw [Bool.not_true] | rw [Bool.not_false] | rw [cond_true] | rw [cond_false] | rw [dss] | rw [bff] | rw [btt] | dsimp only)
  rcases hA with ⟨Q, g1, g2, g3⟩ | ⟨rfl, rfl, I, Im, g1, g2, g3, g4⟩
  · rw [g1]
    repeat (first | rw [Option.bind_some] | rw [num_eq] | rw [d00] | rw [d22] | rw [d23] | rw [Bool.not_true] | rw [Bool.not_false] | rw [cond_true] | rw [cond_false] | rw [dss] | rw [bff] | rw [btt] | dsimp only)
    rw [g2]
    repeat (first | rw [Option.bind_some] | rw [num_eq] | rw [d00] | rw [d22] | rw [d23] | rw [Bool.not_true] | rw [Bool.not_false] | rw [cond_true] | rw [cond_false] | rw [dss] | rw [bff] | rw [btt] | dsimp only)
    by_cases h : r1 = c1
    · have z1 : (r1 : Int) = (c1 : Int) := by omega
      have z2 : ¬ ((s : Int) = (r1 : Int)) := by have := g3 h; omega
      rw [dT z1]
      repeat (first | rw [Option.bind_some] | rw [num_eq] | rw [d00] | rw [d22] | rw [d23] | rw [Bool.not_true] | rw [Bool.not_false] | rw [cond_true] | rw [cond_false] | rw [dss] | rw [bff] | rw [btt] | dsimp only)
      rw [dF z2]
      repeat (first | rw [Option.bind_some] | rw [num_eq] | rw [d00] | rw [d22] | rw [d23] | rw [Bool.not_true] | rw [Bool.not_false] | rw [cond_true] | rw [cond_false] | rw [dss] | rw [bff] | rw [btt] | dsimp only)
      rw [hlive]
      repeat (first | rw [Option.bind_some] | rw [num_eq] | rw [d00] | rw [d22] | rw [d23] | rw [Bool.not_true] | rw [Bool.not_false] | rw [cond_true] | rw [cond_false] | rw [dss] | rw [bff] | rw [btt] | dsimp only)
    · have z1 : ¬ ((r1 : Int) = (c1 : Int)) := by omega
      rw [dF z1]
      repeat (first | rw [Option.bind_some] | rw [num_eq] | rw [d00] | rw [d22] | rw [d23] | rw [Bool.not_true] | rw [Bool.not_false] | rw [cond_true] | rw [cond_false] | rw [dss] | rw [bff] | rw [btt] | dsimp only)
      rw [hlive]
      repeat (first | rw [Option.bind_some] | rw [num_eq] | rw [d00] | rw [d22] | rw [d23] | rw [Bool.not_true] | rw [Bool.not_false] | rw [cond_true] | rw [cond_false] | rw [dss] | rw [bff] | rw [btt] | dsimp only)
  · rw [g1]
    repeat (first | rw [Option.bind_some] | rw [num_eq] | rw [d00] | rw [d22] | rw [d23] | rw [Bool.not_true] | rw [Bool.not_false] | rw [cond_true] | rw [cond_false] | rw [dss] | rw [bff] | rw [btt] | dsimp only)
    rw [g4]
    repeat (first | rw [Option.bind_some] | rw [num_eq] | rw [d00] | rw [d22] | rw [d23] | rw [Bool.not_true] | rw [Bool.not_false] | rw [cond_true] | rw [cond_false] | rw [dss] | rw [bff] | rw [btt] | dsimp only)
    rw [sameV2_refl]
    repeat (first | rw [Option.bind_some] | rw [num_eq] | rw [d00] | rw [d22] | rw [d23] | rw [Bool.not_true] | rw [Bool.not_false] | rw [cond_true] | rw [cond_false] | rw [dss] | rw [bff] | rw [btt] | dsimp only)
    rcases hB with ⟨Q, f1, f2⟩ | ⟨rfl, X, Xm, f1, f2, f3⟩
    · rw [f1]
      repeat (first | rw [Option.bind_some] | rw [num_eq] | rw [d00] | rw [d22] | rw [d23] | rw [Bool.not_true] | rw [Bool.not_false] | rw [cond_true] | rw [cond_false] | rw [dss] | rw [bff] | rw [btt] | dsimp only)
      rw [f2]
      repeat (first | rw [Option.bind_some] | rw [num_eq] | rw [d00] | rw [d22] | rw [d23] | rw [Bool.not_true] | rw [Bool.not_false] | rw [cond_true] | rw [cond_false] | rw [dss] | rw [bff] | rw [btt] | dsimp only)
      rw [hlive]
      repeat (first | rw [Option.bind_some] | rw [num_eq] | rw [d00] | rw [d22] | rw [d23] | rw [Bool.not_true] | rw [Bool.not_false] | rw [cond_true] | rw [cond_false] | rw [dss] | rw [bff] | rw [btt] | dsimp only)
    · rw [f1]
      repeat (first | rw [Option.bind_some] | rw [num_eq] | rw [d00] | rw [d22] | rw [d23] | rw [Bool.not_true] | rw [Bool.not_false] | rw [cond_true] | rw [cond_false] | rw [dss] | rw [bff] | rw [btt] | dsimp only)
      rcases hP2 with ⟨h1, _⟩ | ⟨rfl, L', k, rfl, h2, h3, h4, h5⟩
      · rw [h1]
        repeat (first | rw [Option.bind_some] | rw [num_eq] | rw [d00] | rw [d22] | rw [d23] | rw [Bool.not_true] | rw [Bool.not_false] | rw [cond_true] | rw [cond_false] | rw [dss] | rw [bff] | rw [btt] | dsimp only)
        rw [hlive]
        repeat (first | rw [Option.bind_some] | rw [num_eq] | rw [d00] | rw [d22] | rw [d23] | rw [Bool.not_true] | rw [Bool.not_false] | rw [cond_true] | rw [cond_false] | rw [dss] | rw [bff] | rw [btt] | dsimp only)
      · repeat (first | rw [Option.bind_some] | rw [num_eq] | rw [d00] | rw [d22] | rw [d23] | rw [Bool.not_true] | rw [Bool.not_false] | rw [cond_true] | rw [cond_false] | rw [dss] | rw [bff] | rw [btt] | dsimp only)
        obtain ⟨y, y1, y2⟩ := inverse_ok hN1 a1 a2 h2
        have hm := g3.mul f3
        have hy := hm.rank y1
        rcases y2 with ⟨y3, y4⟩ | ⟨y3, Z, Zm, y4, y5, y6⟩
        · omega
        · obtain ⟨W, x1, x2⟩ := product_ok hN1 a1 a2 a1 a2 a1 a2 f2 g2
          have hZ : Z = W := Is.ext y5 x2 (y6.unique hm)
          subst hZ
          rw [y4]
          repeat (first | rw [Option.bind_some] | rw [num_eq] | rw [d00] | rw [d22] | rw [d23] | rw [Bool.not_true] | rw [Bool.not_false] | rw [cond_true] | rw [cond_false] | rw [dss] | rw [bff] | rw [btt] | dsimp only)
          rw [x1]
          repeat (first | rw [Option.bind_some] | rw [num_eq] | rw [d00] | rw [d22] | rw [d23] | rw [Bool.not_true] | rw [Bool.not_false] | rw [cond_true] | rw [cond_false] | rw [dss] | rw [bff] | rw [btt] | dsimp only)
          rw [same0_refl]
          repeat (first | rw [Option.bind_some] | rw [num_eq] | rw [d00] | rw [d22] | rw [d23] | rw [Bool.not_true] | rw [Bool.not_false] | rw [cond_true] | rw [cond_false] | rw [dss] | rw [bff] | rw [btt] | dsimp only)
          rw [hlive]
          repeat (first | rw [Option.bind_some] | rw [num_eq] | rw [d00] | rw [d22] | rw [d23] | rw [Bool.not_true] | rw [Bool.not_false] | rw [cond_true] | rw [cond_false] | rw [dss] | rw [bff] | rw [btt] | dsimp only)

theorem skip1 {N : Nat} (hlive : granarylaw02_live N () = some true) {m n p q : Int} {J K : List Int} (h : granarylaw02_wide (m, n, J) = some true) : granarylaw02_GfInverses N (m, n, J, p, q, K) = some true := by
  simp only [granarylaw02_GfInverses, h, Option.bind_some, cond_true, hlive]
theorem skip2 {N : Nat} (hlive : granarylaw02_live N () = some true) {m n p q : Int} {J K : List Int} (h : granarylaw02_wide (m, n, J) = some false) (h2 : granarylaw02_wide (p, q, K) = some true) : granarylaw02_GfInverses N (m, n, J, p, q, K) = some true := by
  simp only [granarylaw02_GfInverses, h, h2, Option.bind_some, cond_true, cond_false, hlive]
theorem skip3 {N : Nat} (hlive : granarylaw02_live N () = some true) {m n p q e : Int} {J K : List Int} (h : granarylaw02_wide (m, n, J) = some false) (h2 : granarylaw02_wide (p, q, K) = some false)
    (h3 : granaryref02_Check (m, n, J) = some e) (he : ¬ e = 0) : granarylaw02_GfInverses N (m, n, J, p, q, K) = some true := by
  simp only [granarylaw02_GfInverses, h, h2, h3, dF he, Option.bind_some, cond_true, cond_false, Bool.not_false, hlive]
theorem skip4 {N : Nat} (hlive : granarylaw02_live N () = some true) {m n p q e : Int} {J K : List Int} (h : granarylaw02_wide (m, n, J) = some false) (h2 : granarylaw02_wide (p, q, K) = some false)
    (h3 : granaryref02_Check (m, n, J) = some 0) (h4 : granaryref02_Check (p, q, K) = some e) (he : ¬ e = 0) : granarylaw02_GfInverses N (m, n, J, p, q, K) = some true := by
  simp only [granarylaw02_GfInverses, h, h2, h3, h4, decide_true, dF he, Option.bind_some, cond_true, cond_false, Bool.not_false, Bool.not_true, hlive]

theorem gfInverses (x : EKs [(.pair (.int .i64) (.pair (.int .i64) (.pair (.sl (.int .u8)) .unit))), (.pair (.int .i64) (.pair (.int .i64) (.pair (.sl (.int .u8)) .unit)))]) (hw : wfs [(.pair (.int .i64) (.pair (.int .i64) (.pair (.sl (.int .u8)) .unit))), (.pair (.int .i64) (.pair (.int .i64) (.pair (.sl (.int .u8)) .unit)))] x) : ∃ N, granarylaw02_GfInverses N (x.1.1, x.1.2.1, x.1.2.2.1, x.2.1, x.2.2.1, x.2.2.2.1) = some true := by
  obtain ⟨⟨m, n, J, u⟩, ⟨p, q, K, u'⟩⟩ := x
  change Int at m n p q
  change List Int at J K
  have hx := hw
  have hJ : ∀ y, y ∈ J → 0 ≤ y ∧ y < 256 := by
    intro y hy
    have h1 : EK.wf (.sl (.int .u8)) J := hw.1.2.2.1
    have h2 : EK.wf (.int .u8) y := h1.2 y hy
    have h3 : 0 ≤ y ∧ y ≤ 255 := by simpa [EK.wf, Lit.wf, IntKind.min, IntKind.max, IntKind.signed, IntKind.bits] using h2
    omega
  have hK : ∀ y, y ∈ K → 0 ≤ y ∧ y < 256 := by
    intro y hy
    have h1 : EK.wf (.sl (.int .u8)) K := hw.2.2.2.1
    have h2 : EK.wf (.int .u8) y := h1.2 y hy
    have h3 : 0 ≤ y ∧ y ≤ 255 := by simpa [EK.wf, Lit.wf, IntKind.min, IntKind.max, IntKind.signed, IntKind.bits] using h2
    omega
  refine ⟨300, ?_⟩
  show granarylaw02_GfInverses 300 (m, n, J, p, q, K) = some true
  obtain ⟨b1, w1⟩ := wide_total m n J
  obtain ⟨b2, w2⟩ := wide_total p q K
  cases b1
  · cases b2
    · rcases refCheck_cases m n J with ⟨e, k1, he⟩ | ⟨k1, r1, c1, rfl, rfl, a1, a2, a3, a4, l1⟩
      · exact skip3 live300i w1 w2 k1 he
      · rcases refCheck_cases p q K with ⟨e, k2, he⟩ | ⟨k2, r2, c2, rfl, rfl, a5, a6, a7, a8, l2⟩
        · exact skip4 live300i w1 w2 k1 k2 he
        · obtain ⟨A, iA⟩ := Is.of l1 hJ
          obtain ⟨B, iB⟩ := Is.of l2 hK
          exact core (by omega) live300i a1 a2 a3 a4 a5 a6 a7 a8 iA iB w1 w2 k1 k2
    · exact skip2 live300i w1 w2
  · exact skip1 live300i w1

end Go.Rf.W.Pure
