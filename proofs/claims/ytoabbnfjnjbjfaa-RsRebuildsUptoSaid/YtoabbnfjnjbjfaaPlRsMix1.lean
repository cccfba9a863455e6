/-
  Package rs: the document's sum of shards.
-/
import Derived.Test.YtoabbnfjnjbjfaaPlRsGen
import Derived.Test.YtoabbnfjnjbjfaaPlRsRRow
import Derived.Test.YtoabbnfjnjbjfaaPlRsMulR
set_option linter.unusedVariables false
set_option linter.unusedSimpArgs false
set_option maxRecDepth 10000
namespace Go.Rf.W.Pure
open Go Go.Rf Go.Rf.W Go.Rf.Lin

/-! The document's sum of shards -/

theorem mixv2 {N k n j : Nat} (hN : n + 20 ≤ N) (hn : n ≤ 4096) (hk : k ≤ 100) {R : List Int} {r : Nat → G} {S : List (List Int)} {s : Nat → Nat → G} (hR : Vec k R r) (hS : Mat k n S s) (hj : j < k) :
    ∀ (d f t : Nat) (O : List Int) (o : Nat → G), t + d = n → d < f → Vec n O o → ∃ O', loopF (granaryref03_Mix_v1_b2 N) f (R, S, (n : Int), (j : Int), (t : Int), O) = some O' ∧ Vec n O' (fun q => if t ≤ q then o q + r j * s j q else o q) := by
  intro d
  induction d with
  | zero =>
    intro f t O o ht hf hO
    obtain ⟨f, rfl⟩ : ∃ g, f = g + 1 := ⟨f - 1, by omega⟩
    have : t = n := by omega
    subst this
    exact ⟨O, by simp [loopF, granaryref03_Mix_v1_b2], hO.congr (fun q hq => by rw [if_neg (by omega)])⟩
  | succ d ih =>
    intro f t O o ht hf hO
    obtain ⟨f, rfl⟩ : ∃ g, f = g + 1 := ⟨f - 1, by omega⟩
    have htn : t < n := by omega
    obtain ⟨O', e1, e2⟩ := ih f (t + 1) _ _ (by omega) (by omega) (hO.set htn (o t + r j * s j t))
    refine ⟨O', ?_, e2.congr (fun q hq => ?_)⟩
    · rw [← e1]
      have hlO := hO.len
      have hlR := hR.len
      have hlS := hS.len
      have hrow := hS.getK hj
      have hlr := hrow.len
      have z1 : (t : Int) < (n : Int) := by omega
      have z2 : (0 : Int) ≤ (t : Int) := by omega
      have z3 : (t : Int) < ((O.length : Nat) : Int) := by omega
      have z4 : t < O.length := by omega
      have z5 : (0 : Int) ≤ (j : Int) := by omega
      have z6 : (j : Int) < ((R.length : Nat) : Int) := by omega
      have z7 : (j : Int) < ((S.length : Nat) : Int) := by omega
      have z8 : (t : Int) < (((List.getD S j (EK.dflt (.sl (.int .u8)))).length : Nat) : Int) := by omega
      show granaryref03_Mix_v1_b2 N (loopF (granaryref03_Mix_v1_b2 N) f) _ = _
      generalize loopF (granaryref03_Mix_v1_b2 N) f = nx
      unfold granaryref03_Mix_v1_b2
      dsimp only
      simp only [dT z1, dT z2, dT z3, dT z4, dT z5, dT z6, dT z7, dT z8, Bool.and_self, cond_true, Int.toNat_natCast, hR.getK hj, hrow.getK htn, rmulR (show 20 ≤ N by omega), Option.bind_some, hO.getK htn, xorG, wrap_succ (show t ≤ 1000000 by omega)]
    · by_cases h4 : q = t
      · subst h4; simp [Nat.not_le.2 (Nat.lt_succ_self q)]
      · have : (t + 1 ≤ q) = (t ≤ q) := propext (by omega)
        simp [this, h4]

theorem mixv_ok {N k n : Nat} (hN : n + 200 ≤ N) (hn : n ≤ 4096) (hk : k ≤ 100) {R : List Int} {r : Nat → G} {S : List (List Int)} {s : Nat → Nat → G} (hR : Vec k R r) (hS : Mat k n S s) :
    ∃ O, granaryref03_Mix_v1 N (R, S, (n : Int)) = some O ∧ Vec n O (fun t => sum k (fun l => r l * s l t)) := by
  have hlR := hR.len
  have e0 : ((0 : Nat) : Int) = 0 := rfl
  obtain ⟨O, a1, a2⟩ := it_ex (b := granaryref03_Mix_v1_b0 N) (fun j a => ∃ O, a = (R, S, (n : Int), (j : Int), O) ∧ Vec n O (fun t => sum j (fun l => r l * s l t))) k (Q := fun O => Vec n O (fun t => sum k (fun l => r l * s l t))) (fun j a hj ha => by
    obtain ⟨O, rfl, hO⟩ := ha
    obtain ⟨O', b1, b2⟩ := mixv2 (N := N) (by omega) hn hk hR hS hj n N 0 O _ (by omega) (by omega) hO
    rw [e0] at b1
    refine ⟨_, ⟨O', rfl, b2.congr (fun q hq => by rw [if_pos (Nat.zero_le _)]; rfl)⟩, fun nx => ?_⟩
    have z1 : (j : Int) < ((R.length : Nat) : Int) := by omega
    unfold granaryref03_Mix_v1_b0
    dsimp only
    rw [dT z1, cond_true, granaryref03_Mix_v1_l2, b1, Option.bind_some, wrap_succ (show j ≤ 1000000 by omega)]) (fun a ha => by
    obtain ⟨O, rfl, hO⟩ := ha
    have z1 : ¬ ((k : Int) < ((R.length : Nat) : Int)) := by omega
    refine ⟨O, hO, fun nx => ?_⟩
    unfold granaryref03_Mix_v1_b0
    dsimp only
    rw [dF z1, cond_false]) N (R, S, (n : Int), ((0 : Nat) : Int), List.replicate n 0) (by omega) ⟨_, rfl, (Vec.zeros n).congr (fun j hj => rfl)⟩
  rw [e0] at a1
  have z1 : (0 : Int) ≤ ((n : Nat) : Int) := by omega
  have z2 : fits 1 n = true := by simp [fits]; omega
  refine ⟨O, ?_, a2⟩
  unfold granaryref03_Mix_v1
  dsimp only
  rw [dT z1, Int.toNat_natCast, z2, Bool.and_self, cond_true, granaryref03_Mix_v1_l0]
  rw [show (EK.dflt (.int .u8) : Int) = 0 from rfl, a1, Option.bind_some]

end Go.Rf.W.Pure
