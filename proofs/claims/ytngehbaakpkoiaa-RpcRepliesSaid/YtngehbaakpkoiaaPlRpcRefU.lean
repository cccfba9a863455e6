/-
  Package rpc: the document's reader reads numbers as package xdr's does.
-/
import Derived.Test.YtngehbaakpkoiaaPlRpcEnc
set_option linter.unusedVariables false
set_option maxRecDepth 10000
namespace Go.Rf.W.Pure
open Go Go.Rf Go.Rf.W


theorem r_iter {A R : Type} {b : (A → Option R) → A → Option R} (st : Nat → A) (n : Nat) {r : R} (hs : ∀ i, i < n → ∀ nx, b nx (st i) = nx (st (i + 1))) (he : ∀ nx, b nx (st n) = some r) : ∀ f, n < f → loopF b f (st 0) = some r := by
  have key : ∀ d i f, i + d = n → d < f → loopF b f (st i) = some r := by
    intro d
    induction d with
    | zero =>
      intro i f hi hf
      obtain ⟨f, rfl⟩ : ∃ g, f = g + 1 := ⟨f - 1, by omega⟩
      have : i = n := by omega
      subst this
      exact he _
    | succ d ih =>
      intro i f hi hf
      obtain ⟨f, rfl⟩ : ∃ g, f = g + 1 := ⟨f - 1, by omega⟩
      show b (loopF b f) (st i) = _
      rw [hs i (by omega)]
      exact ih (i + 1) f (by omega) (by omega)
  exact fun f hf => key n 0 f (by omega) hf

theorem val_take {l : List Int} {i : Nat} (h : i < l.length) : val (l.take (i + 1)) = val (l.take i) * 256 + (l.getD i 0).toNat := by
  have t : l.take (i + 1) = l.take i ++ [l.getD i 0] := by
    rw [List.take_add_one, List.getD, List.getElem?_eq_getElem h]; rfl
  unfold val
  rw [t, valA_append]
  rfl

theorem ruint_ok {N a : Nat} {p : Int} {D : List Int} (hb : Bts D) (ha : a ≤ D.length) (hD : D.length < 1000000) (hN : 8 < N) :
    granaryref01_Reader_Uint N ((a : Int), 0, p, D) = if D.length < a + 4 then some (0, (a : Int), 3, (a : Int), D) else some (((numAt D a : Nat) : Int), ((a + 4 : Nat) : Int), 0, p, D) := by
  unfold granaryref01_Reader_Uint granaryref01_Reader_Left granaryref01_Reader_Fail
  dsimp only
  rw [deS, Bool.not_true, cond_false, Option.bind_some]
  dsimp only
  rw [wrapF_i64 (by omega) (by omega)]
  by_cases h : D.length < a + 4
  · rw [if_pos h, deT (by omega)]; rfl
  rw [if_neg h, deF (by omega), cond_false]
  have key : granaryref01_Reader_Uint_l0 N (0, 0, (a : Int), D) = some (((numAt D a : Nat) : Int), (a : Int), D) := by
    refine r_iter (b := granaryref01_Reader_Uint_b0 N) (r := (((numAt D a : Nat) : Int), (a : Int), D)) (fun i => (((val ((D.drop a).take i) : Nat) : Int), (i : Int), (a : Int), D)) 4 (fun i hi nx => ?_) (fun nx => rfl) N (by omega)
    have hl : (D.drop a).length = D.length - a := by simp
    have hlt : i < (D.drop a).length := by omega
    have hg : D.getD (a + i) 0 = (D.drop a).getD i 0 := by simp [List.getD]
    have hbd : 0 ≤ (D.drop a).getD i 0 ∧ (D.drop a).getD i 0 < 256 := by
      rw [List.getD, List.getElem?_eq_getElem hlt]; exact bts_drop hb a _ (List.getElem_mem _)
    have hv : val ((D.drop a).take i) < 256 ^ i := val_lt (bts_take (bts_drop hb a) i) (by simp; omega)
    have hv2 : val ((D.drop a).take i) < 16777216 := Nat.lt_of_lt_of_le hv (Nat.le_trans (Nat.pow_le_pow_right (n := 256) (i := i) (j := 3) (by decide) (by omega)) (by decide))
    have hs := val_take hlt
    unfold granaryref01_Reader_Uint_b0
    dsimp only
    have e1 : wrapF .i64 ((a : Int) + (i : Int)) = ((a + i : Nat) : Int) := by rw [wrapF_i64 (by omega) (by omega)]; omega
    rw [deT (p := (i : Int) < 4) (by omega), cond_true, e1, deT (p := (0 : Int) ≤ ((a + i : Nat) : Int)) (by omega), deT (p := ((a + i : Nat) : Int) < ((D.length : Nat) : Int)) (by omega), Bool.and_self, cond_true, Int.toNat_natCast, deT (p := a + i < D.length) (by omega), cond_true, show (EK.dflt (.int .u8)) = (0 : Int) from rfl, hg, wrapF_i64 (n := (i : Int) + 1) (by omega) (by omega)]
    clear hv
    have e2 : wrapF .u32 (wrapF .u32 (((val ((D.drop a).take i) : Nat) : Int) * 256) + wrapF .u32 ((D.drop a).getD i 0)) = ((val ((D.drop a).take (i + 1)) : Nat) : Int) := by
      rw [hs]
      generalize val ((D.drop a).take i) = v at hv2
      generalize (D.drop a).getD i 0 = c at hbd
      simp only [wrapF]
      omega
    rw [e2]
    rfl
  rw [key, Option.bind_some]
  dsimp only
  rw [wrapF_i64 (by omega) (by omega)]
  rfl

theorem ruint_bad {N a : Nat} {w p : Int} {D : List Int} (hw : w ≠ 0) : granaryref01_Reader_Uint N ((a : Int), w, p, D) = some (0, (a : Int), w, p, D) := by
  unfold granaryref01_Reader_Uint
  dsimp only
  rw [deF hw]; rfl

/-- Both readers read a number. -/
theorem both_uint {N a : Nat} {w p : Int} {D : List Int} (hb : Bts D) (ha : a ≤ D.length) (hD : D.length < 1000000) (hN : 8 < N) :
    ∃ (v a' : Nat) (w' p' : Int), a' ≤ D.length ∧ v < 4294967296 ∧ xdr_Reader_Uint N ((a : Int), w, p, D) = some ((v : Int), (a' : Int), w', p', D) ∧ granaryref01_Reader_Uint N ((a : Int), w, p, D) = some ((v : Int), (a' : Int), w', p', D) := by
  by_cases hw : w = 0
  · subst hw
    rw [uint_ok hb ha hD hN, ruint_ok hb ha hD hN]
    by_cases h : D.length < a + 4
    · rw [if_pos h]; exact ⟨0, a, 3, a, ha, by decide, rfl, rfl⟩
    · rw [if_neg h]; exact ⟨numAt D a, a + 4, 0, p, by omega, numAt_lt hb a, rfl, rfl⟩
  · rw [uint_bad hw, ruint_bad hw]; exact ⟨0, a, w, p, ha, by decide, rfl, rfl⟩


end Go.Rf.W.Pure
