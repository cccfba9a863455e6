/-
  Package rs: Encode and Check, the program's and the document's, of shards of any lengths.
-/
import Derived.Test.YtoabbnfjnjbjfaaPlRsGen
import Derived.Test.YtoabbnfjnjbjfaaPlRsRRow
set_option linter.unusedVariables false
set_option linter.unusedSimpArgs false
set_option maxRecDepth 10000
namespace Go.Rf.W.Pure
open Go Go.Rf Go.Rf.W Go.Rf.Lin

theorem rmulR {N : Nat} (hN : 20 ≤ N) (a b : G) : granaryref02_Mul N ((a.n : Int), (b.n : Int)) = some (((a * b).n : Nat) : Int) := by
  rw [refMul_eq (by omega) a.lt b.lt]; rfl

/-! The document's sum of shards -/

theorem mix2 {N k n j : Nat} (hN : n + 20 ≤ N) (hn : n ≤ 4096) (hk : k ≤ 100) {R : List Int} {r : Nat → G} {S : List (List Int)} {s : Nat → Nat → G} (hR : Vec k R r) (hS : Mat k n S s) (hj : j < k) :
    ∀ (d f t : Nat) (O : List Int) (o : Nat → G), t + d = n → d < f → Vec n O o → ∃ O', loopF (granaryref03_Mix_b2 N) f (R, S, (n : Int), (j : Int), (t : Int), O) = some O' ∧ Vec n O' (fun q => if t ≤ q then o q + r j * s j q else o q) := by
  intro d
  induction d with
  | zero =>
    intro f t O o ht hf hO
    obtain ⟨f, rfl⟩ : ∃ g, f = g + 1 := ⟨f - 1, by omega⟩
    have : t = n := by omega
    subst this
    exact ⟨O, by simp [loopF, granaryref03_Mix_b2], hO.congr (fun q hq => by rw [if_neg (by omega)])⟩
  | succ d ih =>
    intro f t O o ht hf hO
    obtain ⟨f, rfl⟩ : ∃ g, f = g + 1 := ⟨f - 1, by omega⟩
    have htn : t < n := by omega
    obtain ⟨O', e1, e2⟩ := ih f (t + 1) _ _ (by omega) (by omega) (hO.set htn (o t + r j * s j t))
    refine ⟨O', ?_, e2.congr (fun q hq => ?_)⟩
    · rw [← e1]
      have hlO := hO.len
      have hlR := hR.len
      have hlS := hS.len
      have hrow := hS.getK hj
      have hlr := hrow.len
      have z1 : (t : Int) < (n : Int) := by omega
      have z2 : (0 : Int) ≤ (t : Int) := by omega
      have z3 : (t : Int) < ((O.length : Nat) : Int) := by omega
      have z4 : t < O.length := by omega
      have z5 : (0 : Int) ≤ (j : Int) := by omega
      have z6 : (j : Int) < ((R.length : Nat) : Int) := by omega
      have z7 : (j : Int) < ((S.length : Nat) : Int) := by omega
      have z8 : (t : Int) < (((List.getD S j (EK.dflt (.sl (.int .u8)))).length : Nat) : Int) := by omega
      show granaryref03_Mix_b2 N (loopF (granaryref03_Mix_b2 N) f) _ = _
      generalize loopF (granaryref03_Mix_b2 N) f = nx
      unfold granaryref03_Mix_b2
      dsimp only
      simp only [dT z1, dT z2, dT z3, dT z4, dT z5, dT z6, dT z7, dT z8, Bool.and_self, cond_true, Int.toNat_natCast, hR.getK hj, hrow.getK htn, rmulR (show 20 ≤ N by omega), Option.bind_some, hO.getK htn, xorG, wrap_succ (show t ≤ 1000000 by omega)]
    · by_cases h4 : q = t
      · subst h4; simp [Nat.not_le.2 (Nat.lt_succ_self q)]
      · have : (t + 1 ≤ q) = (t ≤ q) := propext (by omega)
        simp [this, h4]

theorem mix_ok {N k n : Nat} (hN : n + 200 ≤ N) (hn : n ≤ 4096) (hk : k ≤ 100) {R : List Int} {r : Nat → G} {S : List (List Int)} {s : Nat → Nat → G} (hR : Vec k R r) (hS : Mat k n S s) :
    ∃ O, granaryref03_Mix N (R, S, (n : Int)) = some O ∧ Vec n O (fun t => sum k (fun l => r l * s l t)) := by
  have hlR := hR.len
  have e0 : ((0 : Nat) : Int) = 0 := rfl
  obtain ⟨O, a1, a2⟩ := it_ex (b := granaryref03_Mix_b0 N) (fun j a => ∃ O, a = (R, S, (n : Int), (j : Int), O) ∧ Vec n O (fun t => sum j (fun l => r l * s l t))) k (Q := fun O => Vec n O (fun t => sum k (fun l => r l * s l t))) (fun j a hj ha => by
    obtain ⟨O, rfl, hO⟩ := ha
    obtain ⟨O', b1, b2⟩ := mix2 (N := N) (by omega) hn hk hR hS hj n N 0 O _ (by omega) (by omega) hO
    rw [e0] at b1
    refine ⟨_, ⟨O', rfl, b2.congr (fun q hq => by rw [if_pos (Nat.zero_le _)]; rfl)⟩, fun nx => ?_⟩
    have z1 : (j : Int) < ((R.length : Nat) : Int) := by omega
    unfold granaryref03_Mix_b0
    dsimp only
    rw [dT z1, cond_true, granaryref03_Mix_l2, b1, Option.bind_some, wrap_succ (show j ≤ 1000000 by omega)]) (fun a ha => by
    obtain ⟨O, rfl, hO⟩ := ha
    have z1 : ¬ ((k : Int) < ((R.length : Nat) : Int)) := by omega
    refine ⟨O, hO, fun nx => ?_⟩
    unfold granaryref03_Mix_b0
    dsimp only
    rw [dF z1, cond_false]) N (R, S, (n : Int), ((0 : Nat) : Int), List.replicate n 0) (by omega) ⟨_, rfl, (Vec.zeros n).congr (fun j hj => rfl)⟩
  rw [e0] at a1
  have z1 : (0 : Int) ≤ ((n : Nat) : Int) := by omega
  have z2 : fits 1 n = true := by simp [fits]; omega
  refine ⟨O, ?_, a2⟩
  unfold granaryref03_Mix
  dsimp only
  rw [dT z1, Int.toNat_natCast, z2, Bool.and_self, cond_true, granaryref03_Mix_l0]
  rw [show (EK.dflt (.int .u8) : Int) = 0 from rfl, a1, Option.bind_some]

/-! Encode -/

theorem encode_v : rs_Code_Encode_v2 = rs_Code_Encode := rfl

theorem rencode_ok {N k m n : Nat} (hN : n + 400 ≤ N) (hn : n ≤ 4096) (hk : 1 ≤ k) (hk2 : k ≤ 16) (hm : m ≤ 8) {S : List (List Int)} {s : Nat → Nat → G} (hS : Mat k n S s) :
    ∃ P, granaryref03_Code_Encode N (S, (k : Int), (m : Int)) = some (0, (k : Int), (m : Int), P) ∧ Mat m n P (fun q => shard k s (k + q)) := by
  have hlS := hS.len
  have e0 : ((0 : Nat) : Int) = 0 := rfl
  have hn0 : (S.getD 0 []).length = n := (hS.row 0 (by omega)).len
  obtain ⟨P, a1, a2⟩ := it_ex (b := granaryref03_Code_Encode_b0 N) (fun p a => ∃ O, a = (S, (p : Int), (k : Int), (m : Int), O) ∧ Mat p n O (fun q => shard k s (k + q))) m (Q := fun (r : Int × Int × List (List Int)) => r.1 = (k : Int) ∧ r.2.1 = (m : Int) ∧ Mat m n r.2.2 (fun q => shard k s (k + q))) (fun p a hp ha => by
    obtain ⟨O, rfl, hO⟩ := ha
    have hlO := hO.len
    obtain ⟨X, b1, b2⟩ := mix_ok (N := N) (by omega) hn (by omega) (rowS_vec (k := k) (i := k + p) hk2 (by omega)) hS
    refine ⟨_, ⟨O ++ [X], rfl, (hO.append b2).congr (fun a ha x hx => ?_)⟩, fun nx => ?_⟩
    · by_cases h : a = p
      · subst h; rw [if_pos rfl]; rfl
      · rw [if_neg h]
    · have z1 : (p : Int) < (m : Int) := by omega
      have z2 : (0 : Int) < ((S.length : Nat) : Int) := by omega
      have w1 : wrapF .i64 ((k : Int) + (p : Int)) = ((k + p : Nat) : Int) := by rw [show (k : Int) + (p : Int) = ((k + p : Nat) : Int) by omega]; exact wrap_nat (by omega)
      have z3 : ((List.length (List.getD S 0 (EK.dflt (.sl (.int .u8)))) : Nat) : Int) = (n : Int) := congrArg _ hn0
      have f1 : fits 24 (O.length + [X].length) = true := by simp [fits]; omega
      unfold granaryref03_Code_Encode_b0
      dsimp only
      rw [dT z1, cond_true, w1, rrow_ok (N := N) (by omega) hk hk2 hm (by omega), Option.bind_some]
      dsimp only
      rw [dT z2, cond_true, z3, b1, Option.bind_some, f1, cond_true, wrap_succ (show p ≤ 1000000 by omega)]) (fun a ha => by
    obtain ⟨O, rfl, hO⟩ := ha
    have z1 : ¬ ((m : Int) < (m : Int)) := by omega
    refine ⟨((k : Int), (m : Int), O), ⟨rfl, rfl, hO⟩, fun nx => ?_⟩
    unfold granaryref03_Code_Encode_b0
    dsimp only
    rw [dF z1, cond_false]) N (S, ((0 : Nat) : Int), (k : Int), (m : Int), []) (by omega) ⟨[], rfl, Mat.nil _ _⟩
  obtain ⟨c1, c2, c3⟩ := a2
  rw [e0] at a1
  refine ⟨P.2.2, ?_, c3⟩
  have z2 : (0 : Int) < ((k : Nat) : Int) := by omega
  have z3 : ((List.length (List.getD S 0 (EK.dflt (.sl (.int .u8)))) : Nat) : Int) = (n : Int) := congrArg _ hn0
  have z4 : ¬ ((4096 : Int) < (n : Int)) := by omega
  unfold granaryref03_Code_Encode
  dsimp only
  rw [revenG (N := N) (by omega) (by omega) (by omega), hlS, dT rfl, Mat.even hS, Bool.and_self, Option.bind_some, Bool.not_true, cond_false, dT z2, cond_true, z3, dF z4, cond_false, granaryref03_Code_Encode_l0, a1, Option.bind_some, c1, c2]

/-- Both Encodes, of any shards. -/
theorem enc_both {N k m : Nat} (hN : 20000 ≤ N) (hk : 1 ≤ k) (hk2 : k ≤ 16) (hm : m ≤ 8) {S : List (List Int)} (hS : Sm S) :
    ∃ (e : Int) (P : List (List Int)), rs_Code_Encode N (S, (k : Int), (m : Int), rowsF k m) = some (e, (k : Int), (m : Int), rowsF k m, P) ∧ granaryref03_Code_Encode N (S, (k : Int), (m : Int)) = some (e, (k : Int), (m : Int), P) ∧
      Sm P ∧ P.length ≤ 8 ∧ (S.length = k → evenB S = true → (S.getD 0 []).length ≤ 4096 → e = 0 ∧ P.length = m) := by
  have hlS := hS.len
  have hnil : Sm ([] : List (List Int)) := ⟨by simp, fun r hr => (by cases hr), fun r hr => (by cases hr)⟩
  have hrev := revenG (N := N) (K := k) (by omega) hlS (by omega)
  by_cases hlen : S.length = k
  · have z1 : ((S.length : Nat) : Int) = (k : Int) := by omega
    have z2 : (0 : Int) < ((S.length : Nat) : Int) := by omega
    cases hev : evenB S with
    | false =>
      refine ⟨2, [], ?_, ?_, hnil, by simp, fun _ h => by cases h⟩
      · unfold rs_Code_Encode
        dsimp only
        rw [dT z1, Bool.not_true, cond_false, evenG (by omega) hS, hev, cond_false, Option.bind_some]
        rfl
      · unfold granaryref03_Code_Encode
        dsimp only
        rw [hrev, hev, Bool.and_false, Option.bind_some]
        rfl
    | true =>
      obtain ⟨s, hM⟩ := Mat.of hS hev
      rw [hlen] at hM
      by_cases hn : (S.getD 0 []).length ≤ 4096
      · obtain ⟨P, p1, p2⟩ := encode_ok (N := N) (by omega) hn hk hk2 hm hM
        obtain ⟨Q, q1, q2⟩ := rencode_ok (N := N) (by omega) hn hk hk2 hm hM
        have : P = Q := p2.ext q2 (fun _ _ _ _ => rfl)
        subst this
        exact ⟨0, P, p1, q1, Mat.sm p2 (by omega) (by omega), by rw [p2.len]; exact hm, fun _ _ _ => ⟨rfl, p2.len⟩⟩
      · refine ⟨1, [], ?_, ?_, hnil, by simp, fun _ _ h => absurd h hn⟩
        · unfold rs_Code_Encode
          dsimp only
          rw [dT z1, Bool.not_true, cond_false, evenG (by omega) hS, hev, cond_true, if_neg hn, Option.bind_some]
          rfl
        · have z4 : (4096 : Int) < ((List.length (List.getD S 0 (EK.dflt (.sl (.int .u8)))) : Nat) : Int) := by
            show (4096 : Int) < (((S.getD 0 []).length : Nat) : Int)
            omega
          unfold granaryref03_Code_Encode
          dsimp only
          rw [hrev, hev, dT hlen, Bool.and_self, Option.bind_some, Bool.not_true, cond_false, dT z2, cond_true, dT z4, cond_true]
  · have z1 : ¬ ((S.length : Nat) : Int) = (k : Int) := by omega
    refine ⟨2, [], ?_, ?_, hnil, by simp, fun h => absurd h hlen⟩
    · unfold rs_Code_Encode
      dsimp only
      rw [dF z1, Bool.not_false, cond_true]
    · unfold granaryref03_Code_Encode
      dsimp only
      rw [hrev, dF hlen, Bool.false_and, Option.bind_some]
      rfl

/-! Check -/

/-- Both Checks, of any shards. -/
theorem check_both {N k m : Nat} (hN : 20000 ≤ N) (hk : 1 ≤ k) (hk2 : k ≤ 16) (hm : m ≤ 8) {S : List (List Int)} (hS : Sm S) :
    ∃ (b : Bool) (e : Int), rs_Code_Check_v1 N (S, (k : Int), (m : Int), rowsF k m) = some (b, e, (k : Int), (m : Int), rowsF k m) ∧ granaryref03_Code_Check N (S, (k : Int), (m : Int)) = some (b, e, (k : Int), (m : Int)) := by
  have hlS := hS.len
  have e0 : ((0 : Nat) : Int) = 0 := rfl
  have w1 : wrapF .i64 ((k : Int) + (m : Int)) = ((k + m : Nat) : Int) := by rw [show (k : Int) + (m : Int) = ((k + m : Nat) : Int) by omega]; exact wrap_nat (by omega)
  have hrev := revenG (N := N) (K := k + m) (by omega) hlS (by omega)
  by_cases hlen : S.length = k + m
  · have z1 : ((S.length : Nat) : Int) = ((k + m : Nat) : Int) := by omega
    have z2 : (0 : Int) ≤ (k : Int) := by omega
    have z3 : (k : Int) ≤ ((S.length : Nat) : Int) := by omega
    cases hev : evenB S with
    | false =>
      refine ⟨false, 2, ?_, ?_⟩
      · unfold rs_Code_Check_v1
        dsimp only
        rw [w1, dT z1, Bool.not_true, cond_false, evenG (by omega) hS, hev, cond_false, Option.bind_some]
        rfl
      · unfold granaryref03_Code_Check
        dsimp only
        rw [w1, hrev, hev, Bool.and_false, Option.bind_some]
        rfl
    | true =>
      have hTk : (List.take k S).length = k := by simp; omega
      have hT0 : (List.take k S).getD 0 [] = S.getD 0 [] := by
        rw [List.getD_eq_getElem?_getD, List.getElem?_take_of_lt (by omega), ← List.getD_eq_getElem?_getD]
      have hTe : evenB (List.take k S) = true := by
        rw [evenB_iff] at hev ⊢
        intro i hi
        rw [hTk] at hi
        rw [hT0, List.getD_eq_getElem?_getD, List.getElem?_take_of_lt hi, ← List.getD_eq_getElem?_getD]
        exact hev i (by omega)
      obtain ⟨e, P, p1, p2, p3, p4, p5⟩ := enc_both (N := N) (m := m) hN hk hk2 hm (hS.take k)
      by_cases hn : (S.getD 0 []).length ≤ 4096
      · obtain ⟨rfl, hPm⟩ := p5 hTk hTe (by rw [hT0]; exact hn)
        have hdl : (List.drop k S).length = m := by simp; omega
        have hsame := sameG (N := N) (by omega) P (List.drop k S) (by omega)
        have hall : ∀ i, i < m → (List.drop k S).getD i [] = S.getD (k + i) [] := fun i hi => by
          rw [List.getD_eq_getElem?_getD, List.getElem?_drop, ← List.getD_eq_getElem?_getD]
        have hsb : sameB P (List.drop k S) = (List.range m).all fun p => decide (enc (P.getD p []) = enc (S.getD (k + p) [])) := by
          unfold sameB
          rw [dT (by omega), Bool.true_and, hPm]
          refine List.all_congr rfl (fun i => ?_)
          by_cases hi : i < m
          · rw [hall i hi]
          · rw [List.getD_eq_getElem?_getD (l := List.drop k S), List.getElem?_drop, ← List.getD_eq_getElem?_getD]
        have key : rs_Code_Check_v1_l0 N (S, (m : Int), ((0 : Nat) : Int), (k : Int), P) = some (cond ((List.range m).all fun p => decide (enc (P.getD p []) = enc (S.getD (k + p) []))) (.inr ((k : Int), P)) (.inl ((k : Int), P))) := by
          rw [rs_Code_Check_v1_l0]
          refine it_all (b := rs_Code_Check_v1_b0 N) (fun p => (S, (m : Int), ((p : Nat) : Int), (k : Int), P)) m (fun p => decide (enc (P.getD p []) = enc (S.getD (k + p) []))) (fun p hp hpp nx => ?_) (fun p hp hpp nx => ?_) (fun nx => ?_) N (by omega)
          all_goals
            first
            | have y1 : (p : Int) < (m : Int) := by omega
              have y2 : (0 : Int) ≤ (p : Int) := by omega
              have y3 : (p : Int) < ((P.length : Nat) : Int) := by omega
              have y4 : p < P.length := by omega
              have y5 : wrapF .i64 ((k : Int) + (p : Int)) = ((k + p : Nat) : Int) := by rw [show (k : Int) + (p : Int) = ((k + p : Nat) : Int) by omega]; exact wrap_nat (by omega)
              have y6 : (0 : Int) ≤ ((k + p : Nat) : Int) := by omega
              have y7 : ((k + p : Nat) : Int) < ((S.length : Nat) : Int) := by omega
              unfold rs_Code_Check_v1_b0
              dsimp only
              rw [dT y1, cond_true, dT y2, dT y3, Bool.and_self, cond_true, Int.toNat_natCast, dT y4, cond_true, y5, dT y6, dT y7, Bool.and_self, cond_true, Int.toNat_natCast]
            | skip
          · have hp' : decide ((List.map (fun (n : Int) => UInt8.ofNat n.toNat) (List.getD P p (EK.dflt (.sl (.int .u8))))) = (List.map (fun (n : Int) => UInt8.ofNat n.toNat) (List.getD S (k + p) (EK.dflt (.sl (.int .u8)))))) = true := hpp
            rw [hp', Bool.not_true, cond_false, wrap_succ (show p ≤ 1000000 by omega)]
          · have hp' : decide ((List.map (fun (n : Int) => UInt8.ofNat n.toNat) (List.getD P p (EK.dflt (.sl (.int .u8))))) = (List.map (fun (n : Int) => UInt8.ofNat n.toNat) (List.getD S (k + p) (EK.dflt (.sl (.int .u8)))))) = false := hpp
            rw [hp', Bool.not_false, cond_true]
          · have h1 : ¬ ((m : Int) < (m : Int)) := by omega
            simp only [rs_Code_Check_v1_b0, dF h1, cond_false]
        rw [e0] at key
        refine ⟨(List.range m).all fun p => decide (enc (P.getD p []) = enc (S.getD (k + p) [])), 0, ?_, ?_⟩
        · have z5 : ((P.length : Nat) : Int) = (m : Int) := by omega
          unfold rs_Code_Check_v1
          dsimp only
          rw [w1, dT z1, Bool.not_true, cond_false, evenG (by omega) hS, hev, cond_true, if_pos hn, Option.bind_some]
          dsimp only
          rw [dT rfl, Bool.not_true, cond_false, dT z2, dT z3, Bool.and_self, cond_true, Int.toNat_natCast, List.drop_zero, p1, Option.bind_some]
          dsimp only
          rw [z5, key, Option.bind_some]
          cases (List.range m).all fun p => decide (enc (P.getD p []) = enc (S.getD (k + p) [])) <;> rfl
        · have z6 : ((S.length : Nat) : Int) ≤ ((S.length : Nat) : Int) := Int.le_refl _
          have z7 : List.take (S.length - k) (List.drop k S) = List.drop k S := List.take_of_length_le (by simp)
          unfold granaryref03_Code_Check
          dsimp only
          rw [w1, hrev, hev, dT hlen, Bool.and_self, Option.bind_some, Bool.not_true, cond_false, dT z2, dT z3, Bool.and_self, cond_true, Int.toNat_natCast, List.drop_zero, p2, Option.bind_some]
          dsimp only
          rw [dT rfl, cond_true, dT z2, dT z3, dT z6, Bool.and_self, Bool.and_self, cond_true, Int.toNat_natCast, z7, ← same_v, same_v, hsame, Option.bind_some, Option.bind_some, hsb]
      · refine ⟨false, 1, ?_, ?_⟩
        · unfold rs_Code_Check_v1
          dsimp only
          rw [w1, dT z1, Bool.not_true, cond_false, evenG (by omega) hS, hev, cond_true, if_neg hn, Option.bind_some]
          rfl
        · obtain ⟨e', P', q1⟩ : ∃ e' P', granaryref03_Code_Encode N (List.take k S, (k : Int), (m : Int)) = some (1, (k : Int), (m : Int), ([] : List (List Int))) ∧ e' = (0 : Int) ∧ P' = (0 : Int) := by
            refine ⟨0, 0, ?_, rfl, rfl⟩
            have y1 : (0 : Int) < (((List.take k S).length : Nat) : Int) := by omega
            have y2 : (4096 : Int) < ((List.length (List.getD (List.take k S) 0 (EK.dflt (.sl (.int .u8)))) : Nat) : Int) := by
              show (4096 : Int) < ((((List.take k S).getD 0 []).length : Nat) : Int)
              rw [hT0]; omega
            unfold granaryref03_Code_Encode
            dsimp only
            rw [revenG (N := N) (K := k) (by omega) (by omega) (by omega), dT hTk, hTe, Bool.and_self, Option.bind_some, Bool.not_true, cond_false, dT y1, cond_true, dT y2, cond_true]
          unfold granaryref03_Code_Check
          dsimp only
          rw [w1, hrev, hev, dT hlen, Bool.and_self, Option.bind_some, Bool.not_true, cond_false, dT z2, dT z3, Bool.and_self, cond_true, Int.toNat_natCast, List.drop_zero, q1.1, Option.bind_some]
          rfl
  · have z1 : ¬ ((S.length : Nat) : Int) = ((k + m : Nat) : Int) := by omega
    refine ⟨false, 2, ?_, ?_⟩
    · unfold rs_Code_Check_v1
      dsimp only
      rw [w1, dF z1, Bool.not_false, cond_true]
    · unfold granaryref03_Code_Check
      dsimp only
      rw [w1, hrev, dF hlen, Bool.false_and, Option.bind_some]
      rfl

theorem check_v : granaryref03_Code_Check_v1 = granaryref03_Code_Check := rfl

end Go.Rf.W.Pure
