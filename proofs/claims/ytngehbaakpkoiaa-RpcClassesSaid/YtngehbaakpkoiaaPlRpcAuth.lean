/-
  Package rpc: proofs of who calls, both readers.
-/
import Derived.Test.YtngehbaakpkoiaaPlRpcRef
set_option linter.unusedVariables false
set_option maxRecDepth 10000
namespace Go.Rf.W.Pure
open Go Go.Rf Go.Rf.W

theorem rest_ok {a : Nat} {w p : Int} {D : List Int} (ha : a ≤ D.length) (hD : D.length < 1000000) : rpc_rest (D, (a : Int), w, p, D) = some ((a : Int), w, p, D, D.drop a) := by
  unfold rpc_rest xdr_Reader_Left xdr_Reader_At
  dsimp only
  rw [Option.bind_some]
  dsimp only
  rw [wrapF_i64 (by omega) (by omega)]
  by_cases h : D.length = a
  · rw [deT (by omega), cond_true, List.drop_of_length_le (by omega)]
  · have ht : List.take (D.length - a) (List.drop a D) = D.drop a := List.take_of_length_le (by simp)
    rw [deF (by omega), cond_false, Option.bind_some]
    dsimp only
    rw [deT (p := (0 : Int) ≤ (a : Int)) (by omega), deT (p := (a : Int) ≤ (D.length : Int)) (by omega), deT (p := (D.length : Int) ≤ (D.length : Int)) (by omega), Bool.and_self, Bool.and_self, cond_true, Int.toNat_natCast, ht, clone1_ok (by simp; omega), Option.bind_some]

theorem both_auth {N a : Nat} {w p : Int} {D : List Int} (hb : Bts D) (ha : a ≤ D.length) (hD : D.length < 1000000) (hN : 8 < N) :
    ∃ (v a' : Nat) (w' p' : Int) (l : List Int), a' ≤ D.length ∧ v < 4294967296 ∧ Bts l ∧ l.length ≤ D.length ∧ rpc_getAuth N ((a : Int), w, p, D) = some ((v : Int), (a' : Int), w', p', D, l) ∧ granaryref21_auth N ((a : Int), w, p, D) = some ((v : Int), (a' : Int), w', p', D, l) := by
  obtain ⟨v, a1, w1, p1, h1, hv, e1, e2⟩ := both_uint (w := w) (p := p) hb ha hD hN
  obtain ⟨a2, w2, p2, l, h2, hl, hll, e3, e4⟩ := both_opaque (M := 400) (w := w1) (p := p1) hb h1 hD hN (by decide) (by decide)
  refine ⟨v, a2, w2, p2, l, h2, hv, hl, hll, ?_, ?_⟩
  · unfold rpc_getAuth
    dsimp only
    rw [e1, Option.bind_some]
    dsimp only
    rw [e3, Option.bind_some]
  · unfold granaryref21_auth
    dsimp only
    rw [e2, Option.bind_some]
    dsimp only
    rw [e4, Option.bind_some]


/-- Both readers read a number; when they can. -/
theorem both_uint2 {N a : Nat} {w p : Int} {D : List Int} (hb : Bts D) (ha : a ≤ D.length) (hD : D.length < 1000000) (hN : 8 < N) :
    ∃ (v a' : Nat) (w' p' : Int), a' ≤ D.length ∧ v < 4294967296 ∧ xdr_Reader_Uint N ((a : Int), w, p, D) = some ((v : Int), (a' : Int), w', p', D) ∧ granaryref01_Reader_Uint N ((a : Int), w, p, D) = some ((v : Int), (a' : Int), w', p', D) ∧
      (w' = 0 → w = 0 ∧ a' = a + 4 ∧ a + 4 ≤ D.length) ∧ (w = 0 → a + 4 ≤ D.length → w' = 0) := by
  by_cases hw : w = 0
  · subst hw
    rw [uint_ok hb ha hD hN, ruint_ok hb ha hD hN]
    by_cases h : D.length < a + 4
    · rw [if_pos h]; exact ⟨0, a, 3, a, ha, by decide, rfl, rfl, fun h => absurd h (by decide), fun _ h2 => absurd h2 (by omega)⟩
    · rw [if_neg h]; exact ⟨numAt D a, a + 4, 0, p, by omega, numAt_lt hb a, rfl, rfl, fun _ => ⟨rfl, rfl, by omega⟩, fun _ _ => rfl⟩
  · rw [uint_bad hw, ruint_bad hw]; exact ⟨0, a, w, p, ha, by decide, rfl, rfl, fun h => absurd h hw, fun h => absurd h hw⟩

end Go.Rf.W.Pure
