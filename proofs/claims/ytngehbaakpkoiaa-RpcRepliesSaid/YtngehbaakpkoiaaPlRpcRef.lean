/-
  Package rpc: the document's readers and writers are those of package xdr.
-/
import Derived.Test.YtngehbaakpkoiaaPlRpcEnc
set_option linter.unusedVariables false
set_option maxRecDepth 10000
namespace Go.Rf.W.Pure
open Go Go.Rf Go.Rf.W

theorem r_iter {A R : Type} {b : (A → Option R) → A → Option R} (st : Nat → A) (n : Nat) {r : R} (hs : ∀ i, i < n → ∀ nx, b nx (st i) = nx (st (i + 1))) (he : ∀ nx, b nx (st n) = some r) : ∀ f, n < f → loopF b f (st 0) = some r := by
  have key : ∀ d i f, i + d = n → d < f → loopF b f (st i) = some r := by
    intro d
    induction d with
    | zero =>
      intro i f hi hf
      obtain ⟨f, rfl⟩ : ∃ g, f = g + 1 := ⟨f - 1, by omega⟩
      have : i = n := by omega
      subst this
      exact he _
    | succ d ih =>
      intro i f hi hf
      obtain ⟨f, rfl⟩ : ∃ g, f = g + 1 := ⟨f - 1, by omega⟩
      show b (loopF b f) (st i) = _
      rw [hs i (by omega)]
      exact ih (i + 1) f (by omega) (by omega)
  exact fun f hf => key n 0 f (by omega) hf

theorem val_take {l : List Int} {i : Nat} (h : i < l.length) : val (l.take (i + 1)) = val (l.take i) * 256 + (l.getD i 0).toNat := by
  have t : l.take (i + 1) = l.take i ++ [l.getD i 0] := by
    rw [List.take_add_one, List.getD, List.getElem?_eq_getElem h]; rfl
  unfold val
  rw [t, valA_append]
  rfl

theorem ruint_ok {N a : Nat} {p : Int} {D : List Int} (hb : Bts D) (ha : a ≤ D.length) (hD : D.length < 1000000) (hN : 8 < N) :
    granaryref01_Reader_Uint N ((a : Int), 0, p, D) = if D.length < a + 4 then some (0, (a : Int), 3, (a : Int), D) else some (((numAt D a : Nat) : Int), ((a + 4 : Nat) : Int), 0, p, D) := by
  unfold granaryref01_Reader_Uint granaryref01_Reader_Left granaryref01_Reader_Fail
  dsimp only
  rw [deS, Bool.not_true, cond_false, Option.bind_some]
  dsimp only
  rw [wrapF_i64 (by omega) (by omega)]
  by_cases h : D.length < a + 4
  · rw [if_pos h, deT (by omega)]; rfl
  rw [if_neg h, deF (by omega), cond_false]
  have key : granaryref01_Reader_Uint_l0 N (0, 0, (a : Int), D) = some (((numAt D a : Nat) : Int), (a : Int), D) := by
    refine r_iter (b := granaryref01_Reader_Uint_b0 N) (r := (((numAt D a : Nat) : Int), (a : Int), D)) (fun i => (((val ((D.drop a).take i) : Nat) : Int), (i : Int), (a : Int), D)) 4 (fun i hi nx => ?_) (fun nx => rfl) N (by omega)
    have hl : (D.drop a).length = D.length - a := by simp
    have hlt : i < (D.drop a).length := by omega
    have hg : D.getD (a + i) 0 = (D.drop a).getD i 0 := by simp [List.getD]
    have hbd : 0 ≤ (D.drop a).getD i 0 ∧ (D.drop a).getD i 0 < 256 := by
      rw [List.getD, List.getElem?_eq_getElem hlt]; exact bts_drop hb a _ (List.getElem_mem _)
    have hv : val ((D.drop a).take i) < 256 ^ i := val_lt (bts_take (bts_drop hb a) i) (by simp; omega)
    have hv2 : val ((D.drop a).take i) < 16777216 := Nat.lt_of_lt_of_le hv (Nat.le_trans (Nat.pow_le_pow_right (n := 256) (i := i) (j := 3) (by decide) (by omega)) (by decide))
    have hs := val_take hlt
    unfold granaryref01_Reader_Uint_b0
    dsimp only
    have e1 : wrapF .i64 ((a : Int) + (i : Int)) = ((a + i : Nat) : Int) := by rw [wrapF_i64 (by omega) (by omega)]; omega
    rw [deT (p := (i : Int) < 4) (by omega), cond_true, e1, deT (p := (0 : Int) ≤ ((a + i : Nat) : Int)) (by omega), deT (p := ((a + i : Nat) : Int) < ((D.length : Nat) : Int)) (by omega), Bool.and_self, cond_true, Int.toNat_natCast, deT (p := a + i < D.length) (by omega), cond_true, show (EK.dflt (.int .u8)) = (0 : Int) from rfl, hg, wrapF_i64 (n := (i : Int) + 1) (by omega) (by omega)]
    clear hv
    have e2 : wrapF .u32 (wrapF .u32 (((val ((D.drop a).take i) : Nat) : Int) * 256) + wrapF .u32 ((D.drop a).getD i 0)) = ((val ((D.drop a).take (i + 1)) : Nat) : Int) := by
      rw [hs]
      generalize val ((D.drop a).take i) = v at hv2
      generalize (D.drop a).getD i 0 = c at hbd
      simp only [wrapF]
      omega
    rw [e2]
    rfl
  rw [key, Option.bind_some]
  dsimp only
  rw [wrapF_i64 (by omega) (by omega)]
  rfl

theorem ruint_bad {N a : Nat} {w p : Int} {D : List Int} (hw : w ≠ 0) : granaryref01_Reader_Uint N ((a : Int), w, p, D) = some (0, (a : Int), w, p, D) := by
  unfold granaryref01_Reader_Uint
  dsimp only
  rw [deF hw]; rfl

theorem rbytes_loop {N : Nat} {n s p : Int} {a off m : Nat} {D : List Int} (ho : (off : Int) = (a : Int) + n) (hm : off + m ≤ D.length) (hD : D.length < 1000000) : ∀ (d f i : Nat), i + d = m → d < f →
    loopF (granaryref01_Reader_bytes_b0 N) f (n, s, (m : Int), (i : Int), (a : Int), 0, p, D) = some (if zeros ((D.drop (off + i)).take d) then .inr ((a : Int), 0, p, D) else .inl (s, 11, s, D)) := by
  intro d
  induction d with
  | zero =>
    intro f i hi hf
    obtain ⟨f, rfl⟩ : ∃ g, f = g + 1 := ⟨f - 1, by omega⟩
    show granaryref01_Reader_bytes_b0 N _ _ = _
    unfold granaryref01_Reader_bytes_b0
    dsimp only
    rw [deF (by omega), cond_false]
    rfl
  | succ d ih =>
    intro f i hi hf
    obtain ⟨f, rfl⟩ : ∃ g, f = g + 1 := ⟨f - 1, by omega⟩
    have hlt : off + i < D.length := by omega
    have hg : List.getD D (off + i) (EK.dflt (.int .u8)) = D[off + i] := by rw [List.getD, List.getElem?_eq_getElem hlt]; rfl
    show granaryref01_Reader_bytes_b0 N (loopF (granaryref01_Reader_bytes_b0 N) f) _ = _
    have ih := ih f (i + 1) (by omega) (by omega)
    generalize loopF (granaryref01_Reader_bytes_b0 N) f = nx at ih
    unfold granaryref01_Reader_bytes_b0 granaryref01_Reader_Fail
    dsimp only
    have e1 : wrapF .i64 (wrapF .i64 ((a : Int) + n) + (i : Int)) = ((off + i : Nat) : Int) := by
      rw [← ho, wrapF_i64 (n := (off : Int)) (by omega) (by omega), wrapF_i64 (by omega) (by omega)]; omega
    rw [deT (p := (i : Int) < (m : Int)) (by omega), cond_true, e1, deT (p := (0 : Int) ≤ ((off + i : Nat) : Int)) (by omega), deT (p := ((off + i : Nat) : Int) < ((D.length : Nat) : Int)) (by omega), Bool.and_self, cond_true, Int.toNat_natCast, deT (p := off + i < D.length) (by omega), cond_true, hg, deS]
    simp only [cond_true, Option.bind_some]
    rw [wrapF_i64 (n := (i : Int) + 1) (by omega) (by omega), show (i : Int) + 1 = ((i + 1 : Nat) : Int) by omega, List.drop_eq_getElem_cons hlt, List.take_succ_cons]
    by_cases hz : D[off + i] = 0
    · rw [deT hz, Bool.not_true, cond_false]
      simp only [zeros, List.all_cons, deT hz, Bool.true_and]
      exact ih
    · rw [deF hz, Bool.not_false, cond_true]
      simp only [zeros, List.all_cons, deF hz, Bool.false_and]
      rfl

theorem ropaque_ok {N a : Nat} {M p : Int} {D : List Int} (hb : Bts D) (ha : a ≤ D.length) (hD : D.length < 1000000) (hN : 8 < N) (hM : 0 ≤ M) (hM2 : M < 1000000) :
    granaryref01_Reader_Opaque N (M, (a : Int), 0, p, D) = some (if opq M D a = 0 then (((a + 4 + numAt D a + padn (numAt D a) : Nat) : Int), 0, p, D, (D.drop (a + 4)).take (numAt D a)) else ((a : Int), opq M D a, (a : Int), D, [])) := by
  unfold granaryref01_Reader_Opaque
  dsimp only
  rw [ruint_ok hb ha hD hN]
  have hn := numAt_lt hb a
  have hp := padn_lt (numAt D a)
  unfold opq
  by_cases h : D.length < a + 4
  · rw [if_pos h, if_pos h, Option.bind_some, if_neg (by decide)]
    rfl
  rw [if_neg h, if_neg h, Option.bind_some]
  dsimp only
  rw [deS, Bool.not_true, cond_false, deF (p := M < 0) (by omega), cond_false, Option.bind_some, wrapF_u64 (n := M) (by omega) (by omega), wrapF_u64 (n := ((numAt D a : Nat) : Int)) (by omega) (by omega), wrapF_u64 (n := ((D.length : Nat) : Int)) (by omega) (by omega)]
  by_cases h2 : M < (numAt D a : Int)
  · rw [deT h2, cond_true, if_pos h2, if_neg (by decide)]
    rfl
  rw [deF h2, cond_false, if_neg h2]
  by_cases h3 : D.length < numAt D a
  · rw [deT (by omega), cond_true, if_pos (show D.length < a + 4 + numAt D a + padn (numAt D a) by omega), if_neg (by decide)]
    rfl
  rw [deF (by omega), cond_false, wrapF_i64 (n := ((numAt D a : Nat) : Int)) (by omega) (by omega)]
  unfold granaryref01_Reader_bytes granaryref01_Reader_Left granaryref01_Reader_Fail
  dsimp only
  rw [deS, Bool.not_true, cond_false, Option.bind_some]
  by_cases h0 : numAt D a = 0
  · rw [deT (by omega), cond_true, h0]
    have hp0 : padn 0 = 0 := rfl
    rw [hp0, if_neg (show ¬ D.length < a + 4 + 0 + 0 by omega), if_pos (show zeros (List.take 0 (List.drop (a + 4 + 0) D)) = true by simp [zeros]), if_pos rfl]
    simp
  rw [deF (by omega), cond_false]
  have e6 : Int.tmod (wrapF .i64 ((4 : Int) - Int.tmod ((numAt D a : Nat) : Int) 4)) 4 = ((padn (numAt D a) : Nat) : Int) := by
    have e : Int.tmod ((numAt D a : Nat) : Int) 4 = ((numAt D a % 4 : Nat) : Int) := rfl
    rw [e, wrapF_i64 (by omega) (by omega)]
    have e2 : (4 : Int) - ((numAt D a % 4 : Nat) : Int) = ((4 - numAt D a % 4 : Nat) : Int) := by omega
    rw [e2]
    rfl
  rw [e6, Option.bind_some]
  dsimp only
  have e7 : wrapF .i64 (((D.length : Nat) : Int) - ((a + 4 : Nat) : Int)) = ((D.length - (a + 4) : Nat) : Int) := by rw [wrapF_i64 (by omega) (by omega)]; omega
  have e8 : wrapF .i64 (((numAt D a : Nat) : Int) + ((padn (numAt D a) : Nat) : Int)) = ((numAt D a + padn (numAt D a) : Nat) : Int) := by rw [wrapF_i64 (by omega) (by omega)]; omega
  rw [e7, e8]
  by_cases h4 : D.length < a + 4 + numAt D a + padn (numAt D a)
  · rw [if_pos h4, if_neg (by decide)]
    by_cases h5 : D.length - (a + 4) < numAt D a
    · rw [deT (by omega), cond_true, Option.bind_some]
      rfl
    · rw [deF (by omega), cond_false, Option.bind_some]
      dsimp only
      rw [deT (by omega), Option.bind_some]
      rfl
  rw [if_neg h4, deF (by omega), cond_false, Option.bind_some]
  dsimp only
  rw [deF (by omega), Option.bind_some]
  dsimp only
  have e9 : wrapF .i64 (((a + 4 : Nat) : Int) + ((numAt D a : Nat) : Int)) = ((a + 4 + numAt D a : Nat) : Int) := by rw [wrapF_i64 (by omega) (by omega)]; omega
  have hl := rbytes_loop (N := N) (n := ((numAt D a : Nat) : Int)) (s := (a : Int)) (p := p) (a := a + 4) (off := a + 4 + numAt D a) (m := padn (numAt D a)) (D := D) (by omega) (by omega) hD (padn (numAt D a)) N 0 (by omega) (by omega)
  rw [show (((0 : Nat)) : Int) = 0 from rfl] at hl
  simp only [Nat.add_zero] at hl
  rw [cond_false, e9, deT (p := (0 : Int) ≤ ((a + 4 : Nat) : Int)) (by omega), deT (p := ((a + 4 : Nat) : Int) ≤ ((a + 4 + numAt D a : Nat) : Int)) (by omega), deT (p := ((a + 4 + numAt D a : Nat) : Int) ≤ ((D.length : Nat) : Int)) (by omega)]
  simp only [Bool.and_self, cond_true, Int.toNat_natCast]
  have ez : a + 4 + numAt D a - (a + 4) = numAt D a := by omega
  simp only [ez]
  have ef : fits 1 (List.take (numAt D a) (List.drop (a + 4) D)).length = true := fits1 (by simp; omega)
  rw [ef]
  rw [deT (p := a + 4 + numAt D a ≤ D.length) (by omega), Bool.and_self, cond_true]
  unfold granaryref01_Reader_bytes_l0
  rw [hl, Option.bind_some]
  by_cases hz : zeros ((D.drop (a + 4 + numAt D a)).take (padn (numAt D a))) = true
  · rw [if_pos hz, if_pos hz, if_pos rfl]
    dsimp only
    rw [e9, wrapF_i64 (by omega) (by omega), Option.bind_some]
    rfl
  · rw [if_neg hz, if_neg hz, if_neg (by decide)]
    rfl

theorem ropaque_bad {N : Nat} {M w p : Int} {D : List Int} {a : Nat} (hw : w ≠ 0) : granaryref01_Reader_Opaque N (M, (a : Int), w, p, D) = some ((a : Int), w, p, D, []) := by
  unfold granaryref01_Reader_Opaque
  dsimp only
  rw [ruint_bad hw, Option.bind_some]
  dsimp only
  rw [deF hw]; rfl

/-- Both readers read a number. -/
theorem both_uint {N a : Nat} {w p : Int} {D : List Int} (hb : Bts D) (ha : a ≤ D.length) (hD : D.length < 1000000) (hN : 8 < N) :
    ∃ (v a' : Nat) (w' p' : Int), a' ≤ D.length ∧ v < 4294967296 ∧ xdr_Reader_Uint N ((a : Int), w, p, D) = some ((v : Int), (a' : Int), w', p', D) ∧ granaryref01_Reader_Uint N ((a : Int), w, p, D) = some ((v : Int), (a' : Int), w', p', D) := by
  by_cases hw : w = 0
  · subst hw
    rw [uint_ok hb ha hD hN, ruint_ok hb ha hD hN]
    by_cases h : D.length < a + 4
    · rw [if_pos h]; exact ⟨0, a, 3, a, ha, by decide, rfl, rfl⟩
    · rw [if_neg h]; exact ⟨numAt D a, a + 4, 0, p, by omega, numAt_lt hb a, rfl, rfl⟩
  · rw [uint_bad hw, ruint_bad hw]; exact ⟨0, a, w, p, ha, by decide, rfl, rfl⟩

/-- Both readers read a row of bytes. -/
theorem both_opaque {N a : Nat} {M w p : Int} {D : List Int} (hb : Bts D) (ha : a ≤ D.length) (hD : D.length < 1000000) (hN : 8 < N) (hM : 0 ≤ M) (hM2 : M < 1000000) :
    ∃ (a' : Nat) (w' p' : Int) (l : List Int), a' ≤ D.length ∧ Bts l ∧ l.length ≤ D.length ∧ xdr_Reader_Opaque N (M, (a : Int), w, p, D) = some ((a' : Int), w', p', D, l) ∧ granaryref01_Reader_Opaque N (M, (a : Int), w, p, D) = some ((a' : Int), w', p', D, l) := by
  by_cases hw : w = 0
  · subst hw
    rw [opaque_ok hb ha hD hN, ropaque_ok hb ha hD hN hM hM2]
    by_cases h : opq M D a = 0
    · rw [if_pos h]
      obtain ⟨h1, _⟩ := opq_good hb h
      exact ⟨_, 0, p, _, h1, bts_take (bts_drop hb _) _, by simp; omega, rfl, rfl⟩
    · rw [if_neg h]; exact ⟨a, _, _, [], ha, (fun x hx => by cases hx), by simp, rfl, rfl⟩
  · rw [opaque_bad (at_ := 0) hw, ropaque_bad hw]; exact ⟨a, w, p, [], ha, (fun x hx => by cases hx), by simp, rfl, rfl⟩

end Go.Rf.W.Pure
