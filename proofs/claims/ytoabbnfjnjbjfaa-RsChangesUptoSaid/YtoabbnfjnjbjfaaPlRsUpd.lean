/-
  Package rs: Update, the program's and the document's.
-/
import Derived.Test.YtoabbnfjnjbjfaaPlRsGen
import Derived.Test.YtoabbnfjnjbjfaaPlRsRRow
import Derived.Test.YtoabbnfjnjbjfaaPlRsMulR
set_option linter.unusedVariables false
set_option linter.unusedSimpArgs false
set_option maxRecDepth 10000
namespace Go.Rf.W.Pure
open Go Go.Rf Go.Rf.W Go.Rf.Lin

theorem sum_v1 : gf_Sum_v1 = gf_Sum := rfl
theorem sum_v2 : gf_Sum_v2 = gf_Sum := rfl
theorem scale_v1 : gf_Scale_v1 = gf_Scale := rfl

/-- What a parity shard becomes. -/
def upd (k c : Nat) (s : Nat → Nat → G) (u v : Nat → G) (p t : Nat) : G := s p t + gen k (k + p) c * (u t + v t)

theorem parity_get {k m p c : Nat} (hk2 : k ≤ 16) (hm : m ≤ 8) (hp : p < m) (hc : c < k) : List.getD (rowsF k m) (c + p * k) (EK.dflt (.int .u8)) = ((gen k (k + p) c).n : Int) ∧ c + p * k < (rowsF k m).length := by
  have h := (parity_vec (k := k) hk2 hm hp).get c hc
  rw [List.getD_eq_getElem?_getD, List.getElem?_take_of_lt hc, List.getElem?_drop, ← List.getD_eq_getElem?_getD, Nat.add_comm] at h
  refine ⟨h, ?_⟩
  have he : (p + 1) * k = p * k + k := by rw [Nat.add_mul, Nat.one_mul]
  have hle : p * k + k ≤ m * k := by rw [← he]; exact Nat.mul_le_mul_right k hp
  rw [rowsF_length]; omega

theorem update_ok {N k m n c : Nat} (hN : n + 400 ≤ N) (hn : n ≤ 4096) (hk : 1 ≤ k) (hk2 : k ≤ 16) (hm : m ≤ 8) (hc : c < k) {S : List (List Int)} {s : Nat → Nat → G} {U V : List Int} {u v : Nat → G} (hU : Vec n U u) (hV : Vec n V v) (hS : Mat m n S s) :
    ∃ P, rs_Code_Update_v1 N (S, (c : Int), U, V, (k : Int), (m : Int), rowsF k m) = some (0, (k : Int), (m : Int), rowsF k m, P) ∧ Mat m n P (upd k c s u v) := by
  have hlS := hS.len
  have hlU := hU.len
  have hlV := hV.len
  have e0 : ((0 : Nat) : Int) = 0 := rfl
  obtain ⟨C, c1, c2⟩ := gsum (N := N) (by omega) hn hU hV
  have hA : Mat (m + 2) n (U :: V :: S) (fun i => if i = 0 then u else if i = 1 then v else s (i - 2)) := by
    refine ⟨by simp [hlS], fun i hi => ?_⟩
    match i with
    | 0 => simpa using hU
    | 1 => simpa using hV
    | i + 2 => simpa using hS.row i (by omega)
  obtain ⟨P, a1, a2⟩ := it_ex (b := rs_Code_Update_v1_b0 N) (fun p a => ∃ O, a = ((c : Int), S, (m : Int), (p : Int), (k : Int), (m : Int), rowsF k m, C, O) ∧ Mat p n O (upd k c s u v)) m
    (Q := fun (r : Int × Int × List Int × List Int × List (List Int)) => r.1 = (k : Int) ∧ r.2.1 = (m : Int) ∧ r.2.2.1 = rowsF k m ∧ Mat m n r.2.2.2.2 (upd k c s u v)) (fun p a hp ha => by
    obtain ⟨O, rfl, hO⟩ := ha
    have hlO := hO.len
    obtain ⟨g1, g2⟩ := parity_get (k := k) (m := m) hk2 hm hp hc
    obtain ⟨L, d1, d2⟩ := gscale (N := N) (by omega) hn (gen k (k + p) c) c2
    obtain ⟨X, b1, b2⟩ := gsum (N := N) (by omega) hn (hS.getK hp) d2
    refine ⟨_, ⟨O ++ [X], rfl, (hO.append b2).congr (fun a ha x hx => ?_)⟩, fun nx => ?_⟩
    · by_cases h : a = p
      · subst h; rw [if_pos rfl]; rfl
      · rw [if_neg h]
    · have z1 : (p : Int) < (m : Int) := by omega
      have z2 : (0 : Int) ≤ (p : Int) := by omega
      have z3 : (p : Int) < ((S.length : Nat) : Int) := by omega
      have z4 : (0 : Int) ≤ (c : Int) := by omega
      have z5 : (c : Int) < (k : Int) := by omega
      have f1 : fits 24 (O.length + [X].length) = true := by simp [fits]; omega
      unfold rs_Code_Update_v1_b0
      dsimp only
      rw [dT z1, cond_true, dT z2, dT z3, Bool.and_self, cond_true, parity_ok hk2 hm hp, Option.bind_some]
      dsimp only
      rw [dT z4, dT z5, Bool.and_self, cond_true, Int.toNat_natCast, dT g2, cond_true, g1, scale_v1, d1, Option.bind_some, sum_v2, Int.toNat_natCast, b1, Option.bind_some]
      dsimp only
      rw [f1, cond_true, wrap_succ (show p ≤ 1000000 by omega)]) (fun a ha => by
    obtain ⟨O, rfl, hO⟩ := ha
    have z1 : ¬ ((m : Int) < (m : Int)) := by omega
    refine ⟨((k : Int), (m : Int), rowsF k m, C, O), ⟨rfl, rfl, rfl, hO⟩, fun nx => ?_⟩
    unfold rs_Code_Update_v1_b0
    dsimp only
    rw [dF z1, cond_false]) N ((c : Int), S, (m : Int), ((0 : Nat) : Int), (k : Int), (m : Int), rowsF k m, C, []) (by omega) ⟨[], rfl, Mat.nil _ _⟩
  obtain ⟨q1, q2, q3, q4⟩ := a2
  rw [e0] at a1
  refine ⟨P.2.2.2.2, ?_, q4⟩
  have z1 : ¬ ((c : Int) < 0) := by omega
  have z2 : ¬ ((k : Int) ≤ (c : Int)) := by omega
  have z3 : ((S.length : Nat) : Int) = (m : Int) := by omega
  have z4 : (0 + 2 ≤ ([U, V] : List (List Int)).length) := Nat.le_refl 2
  have z5 : fits 24 (2 + S.length) = true := by simp [fits]; omega
  have z6 : List.take 2 (List.drop 0 ([U, V] : List (List Int))) ++ S = U :: V :: S := rfl
  have hev := even_ok (N := N) (by omega) (by omega) (by omega) hA
  rw [if_pos hn] at hev
  unfold rs_Code_Update_v1
  dsimp only
  rw [dF z1, cond_false, dF z2, cond_false, z3, dT rfl, Bool.not_true, Option.bind_some, cond_false, dT rfl, dT z4, z5, Bool.and_self, Bool.and_self, cond_true, z6, even_v, hev, Option.bind_some]
  dsimp only
  rw [dT rfl, Bool.not_true, cond_false, sum_v1, c1, Option.bind_some]
  dsimp only
  rw [rs_Code_Update_v1_l0, a1, Option.bind_some, q1, q2, q3]

/-! The document's -/

theorem rupd2 {N k n c p : Nat} (hN : n + 400 ≤ N) (hn : n ≤ 4096) (hc : c < k) {S : List (List Int)} {U V R : List Int} {u v r : Nat → G} (hU : Vec n U u) (hV : Vec n V v) (hR : Vec k R r) :
    ∀ (d f t : Nat) (O : List Int) (o : Nat → G), t + d = n → d < f → Vec n O o →
      ∃ O', loopF (granaryref03_Code_Update_b2 N) f (S, (c : Int), U, V, (p : Int), (t : Int), R, O) = some (R, O') ∧ Vec n O' (fun q => if t ≤ q then o q + r c * (u q + v q) else o q) := by
  have hlU := hU.len
  have hlV := hV.len
  have hlR := hR.len
  intro d
  induction d with
  | zero =>
    intro f t O o ht hf hO
    obtain ⟨f, rfl⟩ : ∃ g, f = g + 1 := ⟨f - 1, by omega⟩
    have : t = n := by omega
    subst this
    have hlO := hO.len
    have z1 : ¬ ((t : Int) < ((O.length : Nat) : Int)) := by omega
    exact ⟨O, by simp only [loopF, granaryref03_Code_Update_b2, dF z1, cond_false], hO.congr (fun q hq => by rw [if_neg (by omega)])⟩
  | succ d ih =>
    intro f t O o ht hf hO
    obtain ⟨f, rfl⟩ : ∃ g, f = g + 1 := ⟨f - 1, by omega⟩
    have htn : t < n := by omega
    obtain ⟨O', e1, e2⟩ := ih f (t + 1) _ _ (by omega) (by omega) (hO.set htn (o t + r c * (u t + v t)))
    refine ⟨O', ?_, e2.congr (fun q hq => ?_)⟩
    · rw [← e1]
      have hlO := hO.len
      have z1 : (t : Int) < ((O.length : Nat) : Int) := by omega
      have z2 : (0 : Int) ≤ (t : Int) := by omega
      have z3 : t < O.length := by omega
      have z4 : (0 : Int) ≤ (c : Int) := by omega
      have z5 : (c : Int) < ((R.length : Nat) : Int) := by omega
      have z6 : c < R.length := by omega
      have z7 : (t : Int) < ((U.length : Nat) : Int) := by omega
      have z8 : (t : Int) < ((V.length : Nat) : Int) := by omega
      show granaryref03_Code_Update_b2 N (loopF (granaryref03_Code_Update_b2 N) f) _ = _
      generalize loopF (granaryref03_Code_Update_b2 N) f = nx
      unfold granaryref03_Code_Update_b2
      dsimp only
      simp only [dT z1, dT z2, dT z3, dT z4, dT z5, dT z6, dT z7, dT z8, Bool.and_self, cond_true, Int.toNat_natCast, hR.getK hc, hU.getK htn, hV.getK htn, xorG, rmulR (show 20 ≤ N by omega), Option.bind_some, hO.getK htn, wrap_succ (show t ≤ 1000000 by omega)]
    · by_cases h4 : q = t
      · subst h4; simp [Nat.not_le.2 (Nat.lt_succ_self q)]
      · have : (t + 1 ≤ q) = (t ≤ q) := propext (by omega)
        simp [this, h4]

theorem rupdate_l0 {N k m n c : Nat} (hN : n + 400 ≤ N) (hn : n ≤ 4096) (hk : 1 ≤ k) (hk2 : k ≤ 16) (hm : m ≤ 8) (hc : c < k) {S : List (List Int)} {s : Nat → Nat → G} {U V : List Int} {u v : Nat → G} (hU : Vec n U u) (hV : Vec n V v) (hS : Mat m n S s) :
    ∃ P, granaryref03_Code_Update_l0 N (S, (c : Int), U, V, 0, (k : Int), (m : Int), []) = some ((k : Int), (m : Int), P) ∧ Mat m n P (upd k c s u v) := by
  have hlS := hS.len
  have e0 : ((0 : Nat) : Int) = 0 := rfl
  obtain ⟨P, a1, a2⟩ := it_ex (b := granaryref03_Code_Update_b0 N) (fun p a => ∃ O, a = (S, (c : Int), U, V, (p : Int), (k : Int), (m : Int), O) ∧ Mat p n O (upd k c s u v)) m
    (Q := fun (r : Int × Int × List (List Int)) => r.1 = (k : Int) ∧ r.2.1 = (m : Int) ∧ Mat m n r.2.2 (upd k c s u v)) (fun p a hp ha => by
    obtain ⟨O, rfl, hO⟩ := ha
    have hlO := hO.len
    have hrow := hS.getK hp
    obtain ⟨X, b1, b2⟩ := rupd2 (N := N) (S := S) (p := p) hN hn hc hU hV (rowS_vec (k := k) (i := k + p) hk2 (by omega)) n N 0 _ _ (by omega) (by omega) hrow
    rw [e0] at b1
    refine ⟨_, ⟨O ++ [X], rfl, (hO.append b2).congr (fun a ha x hx => ?_)⟩, fun nx => ?_⟩
    · by_cases h : a = p
      · subst h; rw [if_pos rfl, if_pos (Nat.zero_le _)]; rfl
      · rw [if_neg h]
    · have z1 : (p : Int) < (m : Int) := by omega
      have z2 : (0 : Int) ≤ (p : Int) := by omega
      have z3 : (p : Int) < ((S.length : Nat) : Int) := by omega
      have w1 : wrapF .i64 ((k : Int) + (p : Int)) = ((k + p : Nat) : Int) := by rw [show (k : Int) + (p : Int) = ((k + p : Nat) : Int) by omega]; exact wrap_nat (by omega)
      have f1 : fits 24 (O.length + [X].length) = true := by simp [fits]; omega
      have f2 : fits 1 (List.getD S p (EK.dflt (.sl (.int .u8)))).length = true := by rw [hrow.len]; simp [fits]; omega
      unfold granaryref03_Code_Update_b0
      dsimp only
      rw [dT z1, cond_true, w1, rrow_ok (N := N) (by omega) hk hk2 hm (by omega), Option.bind_some]
      dsimp only
      rw [dT z2, dT z3, Bool.and_self, cond_true, Int.toNat_natCast, f2, cond_true, granaryref03_Code_Update_l2, b1, Option.bind_some]
      dsimp only
      rw [f1, cond_true, wrap_succ (show p ≤ 1000000 by omega)]) (fun a ha => by
    obtain ⟨O, rfl, hO⟩ := ha
    have z1 : ¬ ((m : Int) < (m : Int)) := by omega
    refine ⟨((k : Int), (m : Int), O), ⟨rfl, rfl, hO⟩, fun nx => ?_⟩
    unfold granaryref03_Code_Update_b0
    dsimp only
    rw [dF z1, cond_false]) N (S, (c : Int), U, V, ((0 : Nat) : Int), (k : Int), (m : Int), []) (by omega) ⟨[], rfl, Mat.nil _ _⟩
  obtain ⟨q1, q2, q3⟩ := a2
  rw [e0] at a1
  refine ⟨P.2.2, ?_, q3⟩
  rw [granaryref03_Code_Update_l0, a1]
  rw [show P = (P.1, P.2.1, P.2.2) from rfl, q1, q2]

/-- Both Updates, whatever comes in. -/
theorem upd_both {N k m : Nat} (hN : 20000 ≤ N) (hk : 1 ≤ k) (hk2 : k ≤ 16) (hm : m ≤ 8) {S : List (List Int)} (hS : Sm S) (hl : S.length ≤ 30) {U V : List Int} (hU : U.length ≤ 9000 ∧ ∀ x, x ∈ U → 0 ≤ x ∧ x < 256) (hV : V.length ≤ 9000 ∧ ∀ x, x ∈ V → 0 ≤ x ∧ x < 256) (c : Int) :
    ∃ (e : Int) (P : List (List Int)), rs_Code_Update_v1 N (S, c, U, V, (k : Int), (m : Int), rowsF k m) = some (e, (k : Int), (m : Int), rowsF k m, P) ∧ granaryref03_Code_Update N (S, c, U, V, (k : Int), (m : Int)) = some (e, (k : Int), (m : Int), P) ∧ Sm P ∧ P.length ≤ 8 := by
  have hnil : Sm ([] : List (List Int)) := ⟨by simp, fun r hr => (by cases hr), fun r hr => (by cases hr)⟩
  by_cases h1 : c < 0
  · refine ⟨2, [], ?_, ?_, hnil, by simp⟩
    · unfold rs_Code_Update_v1; dsimp only; rw [dT h1]; rfl
    · unfold granaryref03_Code_Update; dsimp only; rw [dT h1]; rfl
  by_cases h2 : (k : Int) ≤ c
  · refine ⟨2, [], ?_, ?_, hnil, by simp⟩
    · unfold rs_Code_Update_v1; dsimp only; rw [dF h1, dT h2]; rfl
    · unfold granaryref03_Code_Update; dsimp only; rw [dF h1, dT h2]; rfl
  obtain ⟨c, rfl⟩ : ∃ n : Nat, c = (n : Int) := ⟨Int.toNat c, by omega⟩
  have hc : c < k := by omega
  have hrev := revenG (N := N) (K := m) (by omega) hS.len (by omega)
  by_cases h3 : S.length = m
  · have z3 : ((S.length : Nat) : Int) = (m : Int) := by omega
    have z4 : (0 + 2 ≤ ([U, V] : List (List Int)).length) := Nat.le_refl 2
    have z5 : fits 24 (2 + S.length) = true := by simp [fits]; omega
    have z6 : List.take 2 (List.drop 0 ([U, V] : List (List Int))) ++ S = U :: V :: S := rfl
    have hA : Sm (U :: V :: S) := ⟨by simp; omega, fun r hr => by
      rcases List.mem_cons.1 hr with rfl | hr
      · omega
      · rcases List.mem_cons.1 hr with rfl | hr
        · omega
        · exact hS.row r hr, fun r hr => by
      rcases List.mem_cons.1 hr with rfl | hr
      · exact hU.2
      · rcases List.mem_cons.1 hr with rfl | hr
        · exact hV.2
        · exact hS.byt r hr⟩
    have hA0 : (U :: V :: S).getD 0 [] = U := rfl
    have hev := evenG (N := N) (by omega) hA
    rw [hA0] at hev
    cases hb : evenB (U :: V :: S) with
    | false =>
      rw [hb, cond_false] at hev
      refine ⟨2, [], ?_, ?_, hnil, by simp⟩
      · unfold rs_Code_Update_v1
        dsimp only
        rw [dF h1, cond_false, dF h2, cond_false, z3, dT rfl, Bool.not_true, Option.bind_some, cond_false, dT rfl, dT z4, z5, Bool.and_self, Bool.and_self, cond_true, z6, even_v, hev, Option.bind_some]
        rfl
      · unfold granaryref03_Code_Update
        dsimp only
        rw [dF h1, cond_false, dF h2, cond_false, hrev, dT h3, Bool.true_and, Option.bind_some]
        cases hbS : evenB S with
        | false => rfl
        | true =>
          by_cases hUV : U.length = V.length
          · have hm0 : 0 < m ∧ ¬ (S.getD 0 []).length = U.length := by
              refine Classical.byContradiction fun hn => ?_
              have : evenB (U :: V :: S) = true := by
                rw [evenB_iff]
                rw [evenB_iff] at hbS
                intro i hi
                match i with
                | 0 => rfl
                | 1 => exact hUV.symm
                | i + 2 =>
                  have hi' : i < S.length := by simpa using hi
                  have hS0 : (S.getD 0 []).length = U.length := Classical.byContradiction fun h => hn ⟨by omega, h⟩
                  show (S.getD i []).length = U.length
                  rw [hbS i hi', hS0]
              rw [this] at hb; cases hb
            have y1 : ((U.length : Nat) : Int) = ((V.length : Nat) : Int) := by omega
            have y2 : (0 : Int) < (m : Int) := by omega
            have y3 : (0 : Int) < ((S.length : Nat) : Int) := by omega
            have y4 : ¬ ((List.length (List.getD S 0 (EK.dflt (.sl (.int .u8)))) : Nat) : Int) = ((U.length : Nat) : Int) := fun e => hm0.2 (Int.ofNat.inj e)
            rw [Bool.not_true, cond_false, dT y1, Bool.not_true, cond_false, dT y2, cond_true, dT y3, cond_true, dF y4]
            rfl
          · have y1 : ¬ ((U.length : Nat) : Int) = ((V.length : Nat) : Int) := by omega
            rw [Bool.not_true, cond_false, dF y1]
            rfl
    | true =>
      rw [hb, cond_true] at hev
      rw [evenB_iff] at hb
      have hUV : V.length = U.length := hb 1 (by simp)
      have hSU : ∀ i, i < S.length → (S.getD i []).length = U.length := fun i hi => hb (i + 2) (by simpa using hi)
      have hbS : evenB S = true := by
        rw [evenB_iff]
        intro i hi
        rw [hSU i hi, hSU 0 (by omega)]
      have y1 : ((U.length : Nat) : Int) = ((V.length : Nat) : Int) := by omega
      have hr13 : (cond (decide ((0 : Int) < (m : Int))) (cond (decide ((0 : Int) < ((S.length : Nat) : Int))) (some (!(decide (((List.length (List.getD S 0 (EK.dflt (.sl (.int .u8)))) : Nat) : Int) = ((U.length : Nat) : Int))))) none) (some false)) = some false := by
        by_cases hm0 : 0 < m
        · have y4 : ((List.length (List.getD S 0 (EK.dflt (.sl (.int .u8)))) : Nat) : Int) = ((U.length : Nat) : Int) := congrArg _ (hSU 0 (by omega))
          rw [dT (show (0 : Int) < (m : Int) by omega), cond_true, dT (show (0 : Int) < ((S.length : Nat) : Int) by omega), cond_true, dT y4, Bool.not_true]
        · rw [dF (show ¬ (0 : Int) < (m : Int) by omega), cond_false]
      by_cases hn : U.length ≤ 4096
      · rw [if_pos hn] at hev
        have vU := Vec.of (L := U) hU.2
        have vV := Vec.of (L := V) hV.2
        rw [hUV] at vV
        have hMS : Mat m U.length S (fun i j => G.of ((S.getD i []).getD j 0).toNat) := by
          refine ⟨h3, fun i hi => ?_⟩
          have := Vec.of (L := S.getD i []) (hS.byt _ (getD_mem (by omega)))
          rw [hSU i (by omega)] at this
          exact this
        obtain ⟨P, p1, p2⟩ := update_ok (N := N) (by omega) hn hk hk2 hm hc vU vV hMS
        obtain ⟨Q, q1, q2⟩ := rupdate_l0 (N := N) (by omega) hn hk hk2 hm hc vU vV hMS
        have : P = Q := p2.ext q2 (fun _ _ _ _ => rfl)
        subst this
        refine ⟨0, P, p1, ?_, Mat.sm p2 (by omega) (by omega), by rw [p2.len]; exact hm⟩
        have z7 : ¬ ((4096 : Int) < ((U.length : Nat) : Int)) := by omega
        unfold granaryref03_Code_Update
        dsimp only
        rw [dF h1, cond_false, dF h2, cond_false, hrev, dT h3, Bool.true_and, hbS, Option.bind_some, Bool.not_true, cond_false, dT y1, Bool.not_true, cond_false, hr13, Option.bind_some, cond_false, dF z7, cond_false, q1, Option.bind_some]
      · rw [if_neg hn] at hev
        refine ⟨1, [], ?_, ?_, hnil, by simp⟩
        · unfold rs_Code_Update_v1
          dsimp only
          rw [dF h1, cond_false, dF h2, cond_false, z3, dT rfl, Bool.not_true, Option.bind_some, cond_false, dT rfl, dT z4, z5, Bool.and_self, Bool.and_self, cond_true, z6, even_v, hev, Option.bind_some]
          rfl
        · have z7 : ((4096 : Int) < ((U.length : Nat) : Int)) := by omega
          unfold granaryref03_Code_Update
          dsimp only
          rw [dF h1, cond_false, dF h2, cond_false, hrev, dT h3, Bool.true_and, hbS, Option.bind_some, Bool.not_true, cond_false, dT y1, Bool.not_true, cond_false, hr13, Option.bind_some, cond_false, dT z7, cond_true]
  · have z3 : ¬ ((S.length : Nat) : Int) = (m : Int) := by omega
    refine ⟨2, [], ?_, ?_, hnil, by simp⟩
    · unfold rs_Code_Update_v1
      dsimp only
      rw [dF h1, cond_false, dF h2, cond_false, dF z3]
      rfl
    · unfold granaryref03_Code_Update
      dsimp only
      rw [dF h1, cond_false, dF h2, cond_false, hrev, dF h3, Bool.false_and]
      rfl

end Go.Rf.W.Pure
