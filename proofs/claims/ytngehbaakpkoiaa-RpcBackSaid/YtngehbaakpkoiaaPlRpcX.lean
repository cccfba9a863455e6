/-
  Package rpc: what RpcBack needs, package xdr's side alone (made by tools/mkback.py from the other texts).
-/
import Derived.Test.YtngehbaakpkoiaaPlRpcEnc
set_option linter.unusedVariables false
set_option linter.unusedSimpArgs false
set_option maxRecDepth 10000
namespace Go.Rf.W.Pure
open Go Go.Rf Go.Rf.W

theorem r_iter {A R : Type} {b : (A → Option R) → A → Option R} (st : Nat → A) (n : Nat) {r : R} (hs : ∀ i, i < n → ∀ nx, b nx (st i) = nx (st (i + 1))) (he : ∀ nx, b nx (st n) = some r) : ∀ f, n < f → loopF b f (st 0) = some r := by
  have key : ∀ d i f, i + d = n → d < f → loopF b f (st i) = some r := by
    intro d
    induction d with
    | zero =>
      intro i f hi hf
      obtain ⟨f, rfl⟩ : ∃ g, f = g + 1 := ⟨f - 1, by omega⟩
      have : i = n := by omega
      subst this
      exact he _
    | succ d ih =>
      intro i f hi hf
      obtain ⟨f, rfl⟩ : ∃ g, f = g + 1 := ⟨f - 1, by omega⟩
      show b (loopF b f) (st i) = _
      rw [hs i (by omega)]
      exact ih (i + 1) f (by omega) (by omega)
  exact fun f hf => key n 0 f (by omega) hf

theorem val_take {l : List Int} {i : Nat} (h : i < l.length) : val (l.take (i + 1)) = val (l.take i) * 256 + (l.getD i 0).toNat := by
  have t : l.take (i + 1) = l.take i ++ [l.getD i 0] := by
    rw [List.take_add_one, List.getD, List.getElem?_eq_getElem h]; rfl
  unfold val
  rw [t, valA_append]
  rfl

def wU (n : Nat) (s : Int × List Int) : Int × List Int := if s.1 = 0 then (s.1, s.2 ++ be 4 n) else s

def wO (l : List Int) (M : Int) (s : Int × List Int) : Int × List Int := if s.1 = 0 then (if M < (l.length : Int) then (1, s.2) else (0, s.2 ++ encB l)) else s

theorem bytes32 {n : Nat} : [wrapF .u8 (shrF .u32 (n : Int) 24), wrapF .u8 (shrF .u32 (n : Int) 16), wrapF .u8 (shrF .u32 (n : Int) 8), wrapF .u8 (n : Int)] = be 4 n := by
  have s32 : ∀ k : Nat, k ≤ 32 → shrF .u32 (n : Int) (k : Int) = ((n / 2 ^ k : Nat) : Int) := fun k hk => shrF_nat .u32 (a := n) (n := k) hk
  have e24 : shrF .u32 (n : Int) 24 = ((n / 2 ^ 24 : Nat) : Int) := s32 24 (by omega)
  have e16 : shrF .u32 (n : Int) 16 = ((n / 2 ^ 16 : Nat) : Int) := s32 16 (by omega)
  have e8 : shrF .u32 (n : Int) 8 = ((n / 2 ^ 8 : Nat) : Int) := s32 8 (by omega)
  rw [e24, e16, e8, be4, low8, low8, low8, low8]
  simp only [Nat.div_div_eq_div_mul]

theorem take4 (n : Nat) : List.take 4 (List.drop 0 (be 4 n)) = be 4 n := by rw [List.drop_zero]; exact List.take_of_length_le (by simp)

theorem wuint1 {N n : Nat} {s : Int × List Int} (hn : n < 18446744073709551616) (hb : s.2.length < 900000) (hN : 8 < N) : xdr_Writer_Uint_v1 N ((n : Int), s.1, s.2) = some (wU n s) := by
  obtain ⟨e, b⟩ := s
  unfold xdr_Writer_Uint_v1 xdr_Writer_bad_v1 wU
  dsimp only
  rw [Option.bind_some]
  dsimp only
  by_cases h : e = 0
  · subst h
    have := put1_ok (N := N) (n := n) (size := 4) (b := b) (by simp at hb; omega) (by omega)
    rw [show ((4 : Nat) : Int) = 4 from rfl] at this
    rw [deS, if_pos rfl, Bool.not_true, Bool.not_false, cond_true, wrapF_u64 (by omega) (by omega), this]
    rfl
  · rw [deF h, if_neg h]; rfl

theorem fixw_loop {N m : Nat} (hm : m < 4) : ∀ (d f i : Nat) (b : List Int), i + d = m → d < f → b.length + d < 900000 →
    loopF (xdr_Writer_Fixed_b0 N) f ((m : Int), (i : Int), b) = some (b ++ List.replicate d 0) := by
  intro d
  induction d with
  | zero =>
    intro f i b hi hf hb
    obtain ⟨f, rfl⟩ : ∃ g, f = g + 1 := ⟨f - 1, by omega⟩
    show xdr_Writer_Fixed_b0 N _ _ = _
    unfold xdr_Writer_Fixed_b0
    dsimp only
    rw [deF (by omega), cond_false]
    simp
  | succ d ih =>
    intro f i b hi hf hb
    obtain ⟨f, rfl⟩ : ∃ g, f = g + 1 := ⟨f - 1, by omega⟩
    show xdr_Writer_Fixed_b0 N (loopF (xdr_Writer_Fixed_b0 N) f) _ = _
    generalize hnx : loopF (xdr_Writer_Fixed_b0 N) f = nx
    unfold xdr_Writer_Fixed_b0
    dsimp only
    have e1 : ((i : Int) + 1) = ((i + 1 : Nat) : Int) := by omega
    rw [deT (p := (i : Int) < (m : Int)) (by omega), cond_true, show decide (1 ≤ [(0 : Int)].length) = true from rfl, show List.take 1 (List.drop 0 [(0 : Int)]) = [0] from rfl, fits1 (by simp; omega), Bool.and_self, cond_true, wrapF_i64 (by omega) (by omega), e1, ← hnx]
    rw [ih f (i + 1) (b ++ [0]) (by omega) (by omega) (by simp; omega), List.replicate_succ]
    simp

theorem fixw_ok {N : Nat} {l b : List Int} (hl : l.length + b.length < 800000) (hN : 8 < N) : xdr_Writer_Fixed N (l, 0, b) = some (0, b ++ (l ++ List.replicate (padn l.length) 0)) := by
  unfold xdr_Writer_Fixed xdr_Writer_bad_v1
  dsimp only
  rw [Option.bind_some]
  dsimp only
  have hp := padn_lt l.length
  have := fixw_loop (N := N) hp (padn l.length) N 0 (b ++ l) (by omega) (by omega) (by simp; omega)
  rw [show decide ((0 : Int) = 0) = true from rfl, Bool.not_true, cond_false, fits1 (by omega), cond_true, padding_ok (by omega), Option.bind_some]
  unfold xdr_Writer_Fixed_l0
  rw [show (((0 : Nat)) : Int) = 0 from rfl] at this
  rw [this, Option.bind_some, List.append_assoc]

theorem wU_len (n : Nat) (s : Int × List Int) : (wU n s).2.length ≤ s.2.length + 4 := by unfold wU; split <;> simp

theorem wO_len (l : List Int) (M : Int) (s : Int × List Int) : (wO l M s).2.length ≤ s.2.length + l.length + 8 := by
  have := padn_lt l.length
  unfold wO; split
  · split
    · simp; omega
    · simp [encB_length]; omega
  · omega

theorem wopaque1 {N : Nat} {l : List Int} {M : Int} {s : Int × List Int} (hl : l.length + s.2.length < 700000) (hN : 8 < N) : xdr_Writer_Opaque N (l, M, s.1, s.2) = some (wO l M s) := by
  obtain ⟨e, b⟩ := s
  dsimp only at hl
  unfold xdr_Writer_Opaque xdr_Writer_fits xdr_Writer_bad_v1 wO
  dsimp only
  rw [Option.bind_some]
  dsimp only
  by_cases h : e = 0
  · subst h
    rw [deS, if_pos rfl, Bool.not_true, cond_false]
    by_cases h2 : M < (l.length : Int)
    · rw [deT h2, if_pos h2, cond_true, Option.bind_some, deF (by omega), Option.bind_some]; rfl
    · rw [deF h2, if_neg h2, cond_false, Option.bind_some, deT (by omega), Option.bind_some]
      dsimp only
      have hu := wuint1 (N := N) (n := l.length) (s := (0, b)) (by omega) (by dsimp only; omega) hN
      rw [cond_true, wrapF_u32 (by omega) (by omega)]
      dsimp only at hu
      rw [hu]
      unfold wU
      rw [if_pos rfl, Option.bind_some]
      dsimp only
      rw [fixw_ok (by simp; omega) hN]
      simp only [Option.bind_some, encB, List.append_assoc]
  · rw [deF h, if_neg h]; rfl

theorem wopaque1v {N : Nat} {l : List Int} {M : Int} {s : Int × List Int} (hl : l.length + s.2.length < 700000) (hN : 8 < N) : xdr_Writer_Opaque_v1 N (l, M, s.1, s.2) = some (wO l M s) := by
  obtain ⟨e, b⟩ := s
  dsimp only at hl
  unfold xdr_Writer_Opaque_v1 xdr_Writer_fits xdr_Writer_bad_v1 wO
  dsimp only
  rw [Option.bind_some]
  dsimp only
  by_cases h : e = 0
  · subst h
    rw [deS, if_pos rfl, Bool.not_true, cond_false]
    by_cases h2 : M < (l.length : Int)
    · rw [deT h2, if_pos h2, cond_true, Option.bind_some, deF (by omega), Option.bind_some]; rfl
    · rw [deF h2, if_neg h2, cond_false, Option.bind_some, deT (by omega), Option.bind_some]
      dsimp only
      have hu := wuint1 (N := N) (n := l.length) (s := (0, b)) (by omega) (by dsimp only; omega) hN
      rw [cond_true, wrapF_u32 (by omega) (by omega)]
      dsimp only at hu
      rw [hu]
      unfold wU
      rw [if_pos rfl, Option.bind_some]
      dsimp only
      rw [fixw_ok (by simp; omega) hN]
      simp only [Option.bind_some, encB, List.append_assoc]
  · rw [deF h, if_neg h]; rfl

/-- Numbers in a row, laid. -/
def wN (l : List Nat) : Nat → Int × List Int
  | 0 => (0, [])
  | i + 1 => wU (l.getD i 0) (wN l i)

theorem wN_len (l : List Nat) : ∀ i, (wN l i).2.length ≤ 4 * i
  | 0 => by simp [wN]
  | i + 1 => by
    have h1 := wN_len l i
    have h2 := wU_len (l.getD i 0) (wN l i)
    show (wU (l.getD i 0) (wN l i)).2.length ≤ _
    omega

theorem wN_zero (l : List Nat) : ∀ i, (wN l i).1 = 0
  | 0 => rfl
  | i + 1 => by show (wU _ (wN l i)).1 = 0; unfold wU; rw [if_pos (wN_zero l i)]; exact wN_zero l i

theorem wN_enc (l : List Nat) : ∀ i, i ≤ l.length → (wN l i).2 = ((l.take i).map (be 4)).flatten
  | 0, _ => by simp [wN]
  | i + 1, h => by
    show (wU _ (wN l i)).2 = _
    unfold wU
    rw [if_pos (wN_zero l i)]
    have t : l.take (i + 1) = l.take i ++ [l.getD i 0] := by
      rw [List.take_add_one, List.getD, List.getElem?_eq_getElem (by omega)]; rfl
    rw [t, List.map_append, List.flatten_append, wN_enc l i (by omega)]
    simp

def Er (s : Int × List Int) : Prop := s.1 = 0 ∨ s.1 = 1

theorem wU_er {n : Nat} {s : Int × List Int} (h : Er s) : Er (wU n s) := by
  unfold wU; split
  · exact .inl (by assumption)
  · exact h

theorem wO_er {l : List Int} {M : Int} {s : Int × List Int} (h : Er s) : Er (wO l M s) := by
  unfold wO; split
  · split
    · exact .inr rfl
    · exact .inl rfl
  · exact h

theorem wN_er (l : List Nat) : ∀ i, Er (wN l i)
  | 0 => .inl rfl
  | i + 1 => wU_er (wN_er l i)

theorem putAuth_ok {N n : Nat} {b : List Int} {s : Int × List Int} (hn : n < 4294967296) (hb : b.length ≤ 30000) (hs : s.2.length < 500000) (hN : 8 < N) :
    rpc_putAuth N ((n : Int), b, s.1, s.2) = some (wO b 400 (wU n s)) := by
  unfold rpc_putAuth
  dsimp only
  have h := wU_len n s
  rw [wuint1 (by omega) (by omega) hN, Option.bind_some, wopaque1 (by omega) hN, Option.bind_some]

theorem nums_loop {N : Nat} {l : List Nat} {L : List Int} (hl : ∀ i, i < 6 → List.getD L i (EK.dflt (.int .u32)) = ((l.getD i 0 : Nat) : Int)) (hb : ∀ i, i < 6 → l.getD i 0 < 4294967296) (h6 : L.length = 6) (hN : 8 < N) :
    rpc_PutCall_l0 N (0, 6, (0 : Int), (0 : Int), L, []) = some ((wN l 6).1, L, (wN l 6).2) := by
  refine r_iter (b := rpc_PutCall_b0 N) (r := ((wN l 6).1, L, (wN l 6).2)) (fun i => (0, 6, (i : Int), (wN l i).1, L, (wN l i).2)) 6 (fun i hi nx => ?_) (fun nx => rfl) N (by omega)
  unfold rpc_PutCall_b0
  dsimp only
  have hlen := wN_len l i
  rw [deT (p := (i : Int) < 6) (by omega), cond_true, deT (p := (0 : Int) ≤ (i : Int)) (by omega), deT (p := (i : Int) < (((6 : Nat)) : Int)) (by omega), Bool.and_self, cond_true, Int.toNat_natCast, Nat.add_zero, deT (p := i < L.length) (by omega), cond_true, hl i hi, wuint1 (by have := hb i hi; omega) (by omega) hN, Option.bind_some, wrapF_i64 (by omega) (by omega)]
  rfl

theorem wuint0_ok {N n : Nat} (hn : n < 4294967296) (hN : 8 < N) : xdr_Writer_Uint N ((n : Int), 0) = some (wU n (0, [])) := by
  unfold xdr_Writer_Uint xdr_Writer_bad
  dsimp only
  rw [Option.bind_some, wrapF_u64 (by omega) (by omega)]
  have := put0_ok (N := N) (n := n) (size := 4) (by omega) (by omega)
  rw [show ((4 : Nat) : Int) = 4 from rfl] at this
  rw [this]
  rfl

/-- Numbers of a row, laid on. -/
def wI (l : List Int) (s : Int × List Int) : Nat → Int × List Int
  | 0 => s
  | i + 1 => wU (l.getD i 0).toNat (wI l s i)

theorem wI_len (l : List Int) (s : Int × List Int) : ∀ i, (wI l s i).2.length ≤ s.2.length + 4 * i
  | 0 => by simp [wI]
  | i + 1 => by
    have h1 := wI_len l s i
    have h2 := wU_len (l.getD i 0).toNat (wI l s i)
    show (wU (l.getD i 0).toNat (wI l s i)).2.length ≤ _
    omega

theorem wI_zero (l : List Int) {s : Int × List Int} (h : s.1 = 0) : ∀ i, (wI l s i).1 = 0
  | 0 => h
  | i + 1 => by show (wU _ (wI l s i)).1 = 0; unfold wU; rw [if_pos (wI_zero l h i)]; exact wI_zero l h i

theorem getD_u32 {l : List Int} (hl : ∀ x ∈ l, 0 ≤ x ∧ x < 4294967296) {i : Nat} (hi : i < l.length) : List.getD l i (EK.dflt (.int .u32)) = (((l.getD i 0).toNat : Nat) : Int) ∧ (l.getD i 0).toNat < 4294967296 := by
  have h : l.getD i 0 = l[i] := by rw [List.getD, List.getElem?_eq_getElem hi]; rfl
  have h2 : List.getD l i (EK.dflt (.int .u32)) = l[i] := by rw [List.getD, List.getElem?_eq_getElem hi]; rfl
  have h3 := hl _ (List.getElem_mem hi)
  rw [h, h2]
  omega

theorem putList_ok {N : Nat} {l : List Int} {s : Int × List Int} (hl : ∀ x ∈ l, 0 ≤ x ∧ x < 4294967296) (h1 : l.length < 30000) (hs : s.2.length < 300000) (hN : 100 < N) :
    xdr_PutList_uint32 N (l, 16, s.1, s.2) = some (if s.1 = 0 then (if 16 < l.length then (1, s.2) else wI l (wU l.length s) l.length) else s) := by
  obtain ⟨e, b⟩ := s
  unfold xdr_PutList_uint32 xdr_Writer_fits xdr_Writer_bad_v1
  dsimp only at hs ⊢
  rw [Option.bind_some]
  dsimp only
  by_cases h : e = 0
  · subst h
    rw [deS, if_pos rfl, Bool.not_true, cond_false]
    by_cases h2 : 16 < l.length
    · rw [deT (p := (16 : Int) < (l.length : Int)) (by omega), cond_true, Option.bind_some, deF (p := (l.length : Int) ≤ 16) (by omega), Option.bind_some, if_pos h2]; rfl
    · rw [deF (p := (16 : Int) < (l.length : Int)) (by omega), cond_false, Option.bind_some, deT (p := (l.length : Int) ≤ 16) (by omega), Option.bind_some, if_neg h2]
      dsimp only
      rw [Bool.not_true, cond_false, wrapF_u32 (by omega) (by omega)]
      have hu := wuint1 (N := N) (n := l.length) (s := (0, b)) (by omega) (by dsimp only; omega) (by omega)
      dsimp only at hu
      rw [hu, Option.bind_some]
      have hz : (wU l.length (0, b)).1 = 0 := rfl
      have hl0 := wU_len l.length (0, b)
      generalize wU l.length (0, b) = t at hl0 hz ⊢
      dsimp only at hl0
      have key : xdr_PutList_uint32_l0 N (l, (l.length : Int), 0, t.1, t.2) = some (wI l t l.length) := by
        refine r_iter (b := xdr_PutList_uint32_b0 N) (r := wI l t l.length) (fun i => (l, (l.length : Int), (i : Int), (wI l t i).1, (wI l t i).2)) l.length (fun i hi nx => ?_) (fun nx => ?_) N (by omega)
        · unfold xdr_PutList_uint32_b0 rpc_putGid
          dsimp only
          obtain ⟨g1, g2⟩ := getD_u32 hl hi
          have hlen := wI_len l t i
          rw [deT (p := (i : Int) < (l.length : Int)) (by omega), cond_true, deT (p := (0 : Int) ≤ (i : Int)) (by omega), Bool.and_self, cond_true, Int.toNat_natCast, g1, wuint1 (by omega) (by omega) (by omega), Option.bind_some, Option.bind_some, wrapF_i64 (by omega) (by omega)]
          rfl
        · unfold xdr_PutList_uint32_b0
          dsimp only
          rw [deF (by omega), cond_false]
      rw [key, Option.bind_some]
  · rw [deF h, if_neg h]; rfl

theorem wO_zero {l : List Int} {M : Int} {s : Int × List Int} (hs : s.1 = 0) : (wO l M s).1 = if M < (l.length : Int) then 1 else 0 := by
  unfold wO; rw [if_pos hs]; split <;> rfl

theorem wU_e {n : Nat} {s : Int × List Int} : (wU n s).1 = s.1 := by
  unfold wU; split <;> rfl

/-- A reply that says what its kind says, and nothing else. -/
def okR (k lo hi why : Int) (n : Nat) : Bool :=
  bif decide (k = 0) then (decide (lo = 0) && (decide (hi = 0) && decide (why = 0)))
  else bif decide (k = 2) then (decide (why = 0) && decide ((n : Int) = 0))
  else bif decide (k = 6) then (decide (why = 0) && decide ((n : Int) = 0))
  else bif decide (k = 7) then (decide (lo = 0) && (decide (hi = 0) && decide ((n : Int) = 0)))
  else bif (decide (k = 1) || (decide (k = 3) || (decide (k = 4) || decide (k = 5)))) then (decide (lo = 0) && (decide (hi = 0) && (decide (why = 0) && decide ((n : Int) = 0))))
  else false

def wds (x lo hi why : Nat) (k : Int) : List Nat :=
  if k = 6 then [x, 1, 1, 0, lo, hi] else if k = 7 then [x, 1, 1, 1, why] else if k = 2 then [x, 1, 0, 0, 0, 2, lo, hi] else [x, 1, 0, 0, 0, k.toNat]

def encR (x lo hi why : Nat) (k : Int) (data : List Int) : List Int := ((wds x lo hi why k).map (be 4)).flatten ++ data

theorem ok_kind {k lo hi why : Int} {n : Nat} (h : okR k lo hi why n = true) : k = 0 ∨ k = 1 ∨ k = 2 ∨ k = 3 ∨ k = 4 ∨ k = 5 ∨ k = 6 ∨ k = 7 := by
  unfold okR at h
  by_cases h0 : k = 0
  · exact .inl h0
  rw [deF h0, cond_false] at h
  by_cases h2 : k = 2
  · exact .inr (.inr (.inl h2))
  rw [deF h2, cond_false] at h
  by_cases h6 : k = 6
  · exact .inr (.inr (.inr (.inr (.inr (.inr (.inl h6))))))
  rw [deF h6, cond_false] at h
  by_cases h7 : k = 7
  · exact .inr (.inr (.inr (.inr (.inr (.inr (.inr h7))))))
  rw [deF h7, cond_false] at h
  by_cases h1 : k = 1
  · exact .inr (.inl h1)
  by_cases h3 : k = 3
  · exact .inr (.inr (.inr (.inl h3)))
  by_cases h4 : k = 4
  · exact .inr (.inr (.inr (.inr (.inl h4))))
  by_cases h5 : k = 5
  · exact .inr (.inr (.inr (.inr (.inr (.inl h5)))))
  rw [deF h1, deF h3, deF h4, deF h5] at h
  cases h

theorem whole_ok (x k lo hi why : Int) (data : List Int) : rpc_whole (x, k, lo, hi, why, data) = some (okR k lo hi why data.length) := by
  unfold rpc_whole okR
  dsimp only
  by_cases h0 : k = 0
  · rw [deT h0, cond_true, cond_true, Option.bind_some]
    dsimp only
    rw [Option.bind_some]
    dsimp only
    rw [deS]
    cases decide (lo = 0) <;> cases decide (hi = 0) <;> cases decide (why = 0) <;> rfl
  rw [deF h0, cond_false, cond_false]
  by_cases h2 : k = 2
  · rw [deT h2, cond_true, cond_true, Option.bind_some]
    dsimp only
    rw [Option.bind_some]
    dsimp only
    rw [deS, deS]
    show ((bif true then bif true then bif decide (why = 0) then some (decide (((data.length : Nat) : Int) = 0)) else some false else some false else some false).bind fun r27 => some r27) = _
    cases decide (why = 0) <;> cases decide (((data.length : Nat) : Int) = 0) <;> rfl
  rw [deF h2, cond_false, cond_false]
  by_cases h6 : k = 6
  · rw [deT h6, cond_true, cond_true, Option.bind_some]
    dsimp only
    rw [Option.bind_some]
    dsimp only
    rw [deS, deS]
    show ((bif true then bif true then bif decide (why = 0) then some (decide (((data.length : Nat) : Int) = 0)) else some false else some false else some false).bind fun r27 => some r27) = _
    cases decide (why = 0) <;> cases decide (((data.length : Nat) : Int) = 0) <;> rfl
  rw [deF h6, cond_false, cond_false]
  by_cases h7 : k = 7
  · rw [deT h7, cond_true, cond_true, Option.bind_some]
    dsimp only
    rw [Option.bind_some]
    dsimp only
    rw [deS]
    show ((bif decide (lo = 0) then bif decide (hi = 0) then bif true then some (decide (((data.length : Nat) : Int) = 0)) else some false else some false else some false).bind fun r27 => some r27) = _
    cases decide (lo = 0) <;> cases decide (hi = 0) <;> cases decide (((data.length : Nat) : Int) = 0) <;> rfl
  rw [deF h7, cond_false, cond_false]
  have key : ∀ z : Option (Unit ⊕ List Int ⊕ Unit ⊕ Unit ⊕ Unit), z = some (.inr (.inr (.inr (.inl ())))) → (decide (k = 1) || (decide (k = 3) || (decide (k = 4) || decide (k = 5)))) = true →
      ((z.bind fun r9 => match r9 with
        | .inl y10 => some (.inl (lo, hi, (0 : Int), ([] : List Int)))
        | .inr z11 => match z11 with
          | .inl y12 => some (.inl ((0 : Int), (0 : Int), (0 : Int), y12))
          | .inr z13 => match z13 with
            | .inl y14 => some (.inl ((0 : Int), (0 : Int), why, ([] : List Int)))
            | .inr z15 => match z15 with
              | .inl y16 => some (.inl ((0 : Int), (0 : Int), (0 : Int), ([] : List Int)))
              | .inr z17 => (some (.inr (())) : Option ((Int × Int × Int × (List Int)) ⊕ (Unit)))).bind fun r18 => match r18 with
          | .inl y19 => (bif decide (lo = y19.1) then bif decide (hi = y19.2.1) then bif decide (why = y19.2.2.1) then some (decide (((data.length : Nat) : Int) = ((y19.2.2.2.length : Nat) : Int))) else some false else some false else some false).bind fun r27 => some r27
          | .inr z20 => some false) = some (bif (decide (k = 1) || (decide (k = 3) || (decide (k = 4) || decide (k = 5)))) then (decide (lo = 0) && (decide (hi = 0) && (decide (why = 0) && decide (((data.length : Nat) : Int) = 0)))) else false) := by
    intro z hz hb
    rw [hz, hb, Option.bind_some]
    dsimp only
    rw [Option.bind_some]
    show ((bif decide (lo = 0) then bif decide (hi = 0) then bif decide (why = 0) then some (decide (((data.length : Nat) : Int) = 0)) else some false else some false else some false).bind fun r27 => some r27) = _
    cases decide (lo = 0) <;> cases decide (hi = 0) <;> cases decide (why = 0) <;> cases decide (((data.length : Nat) : Int) = 0) <;> rfl
  by_cases h1 : k = 1
  · exact key _ (by rw [deT h1, cond_true]) (by rw [deT h1]; rfl)
  by_cases h3 : k = 3
  · exact key _ (by rw [deF h1, deT h3, cond_true, cond_false]) (by rw [deF h1, deT h3]; rfl)
  by_cases h4 : k = 4
  · exact key _ (by rw [deF h1, deF h3, deT h4, cond_true, cond_false, cond_false]) (by rw [deF h1, deF h3, deT h4]; rfl)
  by_cases h5 : k = 5
  · exact key _ (by rw [deF h1, deF h3, deF h4, deT h5, cond_true, cond_false, cond_false, cond_false]) (by rw [deF h1, deF h3, deF h4, deT h5]; rfl)
  rw [deF h1, deF h3, deF h4, deF h5]
  rfl

theorem reply_loop {N n : Nat} {l : List Nat} {L : List Int} (hl : ∀ i, i < n → List.getD L i (EK.dflt (.int .u32)) = ((l.getD i 0 : Nat) : Int)) (hb : ∀ i, i < n → l.getD i 0 < 4294967296) (h6 : L.length = n) (h8 : n ≤ 8) (hN : 8 < N) :
    rpc_PutReply_l1 N (0, n, (n : Int), (0 : Int), (0 : Int), L, []) = some ((wN l n).1, L, (wN l n).2) := by
  refine r_iter (b := rpc_PutReply_b1 N) (r := ((wN l n).1, L, (wN l n).2)) (fun i => (0, n, (n : Int), (i : Int), (wN l i).1, L, (wN l i).2)) n (fun i hi nx => ?_) (fun nx => ?_) N (by omega)
  · unfold rpc_PutReply_b1
    dsimp only
    have hlen := wN_len l i
    rw [deT (p := (i : Int) < (n : Int)) (by omega), cond_true, deT (p := (0 : Int) ≤ (i : Int)) (by omega), Bool.and_self, cond_true, Int.toNat_natCast, Nat.add_zero, deT (p := i < L.length) (by omega), cond_true, hl i hi, wuint1 (by have := hb i hi; omega) (by omega) hN, Option.bind_some, wrapF_i64 (by omega) (by omega)]
    rfl
  · unfold rpc_PutReply_b1
    dsimp only
    rw [deF (by omega), cond_false]

theorem put_end {N n : Nat} {l : List Nat} {L data : List Int} (hl : ∀ i, i < n → List.getD L i (EK.dflt (.int .u32)) = ((l.getD i 0 : Nat) : Int)) (hb : ∀ i, i < n → l.getD i 0 < 4294967296) (h6 : L.length = n) (hn : l.length = n) (h8 : n ≤ 8) (hd : data.length < 500000) (hN : 8 < N) :
    ((rpc_PutReply_l1 N (0, n, ((n : Nat) : Int), (0 : Int), (0 : Int), L, ([] : List Int))).bind fun r17 =>
      (xdr_Writer_Bytes (r17.1, r17.2.2)).bind fun r18 =>
        bif fits 1 (r18.2.2.length + data.length) then some ((0 : Int), r18.2.2 ++ data) else none) = some (0, (l.map (be 4)).flatten ++ data) := by
  have e := wN_enc l n (by omega)
  have hlen := wN_len l n
  rw [reply_loop hl hb h6 h8 hN, Option.bind_some]
  unfold xdr_Writer_Bytes
  dsimp only
  rw [clone_ok (by omega), Option.bind_some, Option.bind_some]
  dsimp only
  rw [fits1 (by omega), cond_true, e, List.take_of_length_le (by omega)]

theorem get6 {l : List Nat} {L : List Int} {n : Nat} (h : L = l.map fun (m : Nat) => (m : Int)) (hn : l.length = n) : ∀ i, i < n → List.getD L i (EK.dflt (.int .u32)) = ((l.getD i 0 : Nat) : Int) := fun i hi => by
  subst h
  rw [List.getD, List.getD, List.getElem?_map, List.getElem?_eq_getElem (by omega)]
  rfl

theorem bnd {l : List Nat} {n : Nat} (h : ∀ x ∈ l, x < 4294967296) (hn : l.length = n) : ∀ i, i < n → l.getD i 0 < 4294967296 := fun i hi => by
  rw [List.getD, List.getElem?_eq_getElem (by omega)]
  exact h _ (List.getElem_mem _)

theorem wds_bnd {x lo hi why : Nat} {k : Int} (hx : x < 4294967296) (hl : lo < 4294967296) (hh : hi < 4294967296) (hy : why < 4294967296) (hk : k = 0 ∨ k = 1 ∨ k = 2 ∨ k = 3 ∨ k = 4 ∨ k = 5 ∨ k = 6 ∨ k = 7) : ∀ y ∈ wds x lo hi why k, y < 4294967296 := by
  intro y hy2
  unfold wds at hy2
  split at hy2
  · simp at hy2; omega
  split at hy2
  · simp at hy2; omega
  split at hy2
  · simp at hy2; omega
  · simp at hy2; omega

theorem putReply_ok {N x lo hi why : Nat} {k : Int} {data : List Int} (hx : x < 4294967296) (hl : lo < 4294967296) (hh : hi < 4294967296) (hy : why < 4294967296) (hd : data.length < 500000) (hN : 8 < N) :
    rpc_PutReply N ((x : Int), k, (lo : Int), (hi : Int), (why : Int), data) = some (bif okR k lo hi why data.length then (0, encR x lo hi why k data) else (2, [])) := by
  unfold rpc_PutReply
  dsimp only
  rw [whole_ok, Option.bind_some]
  cases ho : okR k lo hi why data.length with
  | false => rfl
  | true =>
    have hk := ok_kind ho
    have hb := wds_bnd hx hl hh hy hk
    unfold encR
    unfold wds at hb ⊢
    rw [Bool.not_true, cond_false, cond_true, show xdr_NewWriter () = some () from rfl, Option.bind_some]
    by_cases h6 : k = 6
    · rw [if_pos h6] at hb ⊢
      rw [deT h6, cond_true, Option.bind_some]
      exact put_end (N := N) (n := 6) (L := [(x : Int), 1, 1, 0, (lo : Int), (hi : Int)]) (l := [x, 1, 1, 0, lo, hi]) (get6 rfl rfl) (bnd hb rfl) rfl rfl (by omega) hd hN
    rw [if_neg h6] at hb ⊢
    rw [deF h6, cond_false]
    by_cases h7 : k = 7
    · rw [if_pos h7] at hb ⊢
      rw [deT h7, cond_true, Option.bind_some, Option.bind_some]
      exact put_end (N := N) (n := 5) (L := [(x : Int), 1, 1, 1, (why : Int)]) (l := [x, 1, 1, 1, why]) (get6 rfl rfl) (bnd hb rfl) rfl rfl (by omega) hd hN
    rw [if_neg h7] at hb ⊢
    rw [deF h7, cond_false]
    by_cases h2 : k = 2
    · rw [if_pos h2] at hb ⊢
      subst h2
      rw [deS, cond_true]
      exact put_end (N := N) (n := 8) (L := [(x : Int), 1, 0, 0, 0, 2, (lo : Int), (hi : Int)]) (l := [x, 1, 0, 0, 0, 2, lo, hi]) (get6 rfl rfl) (bnd hb rfl) rfl rfl (by omega) hd hN
    rw [if_neg h2] at hb ⊢
    rw [deF h2, cond_false, Option.bind_some, Option.bind_some, Option.bind_some]
    have ek : wrapF .u32 k = ((k.toNat : Nat) : Int) := by rw [wrapF_u32 (by omega) (by omega)]; omega
    rw [ek]
    exact put_end (N := N) (n := 6) (L := [(x : Int), 1, 0, 0, 0, ((k.toNat : Nat) : Int)]) (l := [x, 1, 0, 0, 0, k.toNat]) (get6 rfl rfl) (bnd hb rfl) rfl rfl (by omega) hd hN

theorem putReply1_eq (N : Nat) : rpc_PutReply_v1 N = rpc_PutReply N := rfl

/-- What a reply is written as. -/
def IsR (D : List Int) (x lo hi why : Nat) (k : Int) (data : List Int) : Prop :=
  okR k lo hi why data.length = true ∧ encR x lo hi why k data = D ∧ x < 4294967296 ∧ lo < 4294967296 ∧ hi < 4294967296 ∧ why < 4294967296

theorem numAt_words {D r : List Int} : ∀ (l : List Nat) (a : Nat), D.drop a = (l.map (be 4)).flatten ++ r → (∀ y ∈ l, y < 4294967296) → ∀ i, i < l.length → numAt D (a + 4 * i) = l.getD i 0
  | [], a, h, hb, i, hi => by simp at hi
  | w :: l, a, h, hb, i, hi => by
    rw [List.map_cons, List.flatten_cons, List.append_assoc] at h
    cases i with
    | zero => exact numAt_enc h (hb w (List.mem_cons_self ..))
    | succ i =>
      have h2 := drop_more h
      rw [show (be 4 w).length = 4 by simp] at h2
      have := numAt_words l (a + 4) h2 (fun y hy => hb y (List.mem_cons_of_mem _ hy)) i (by simpa using hi)
      rw [show a + 4 * (i + 1) = a + 4 + 4 * i by omega, this]
      rfl

theorem words_len (l : List Nat) : ((l.map (be 4)).flatten).length = 4 * l.length := by
  induction l with
  | nil => rfl
  | cons w l ih => rw [List.map_cons, List.flatten_cons, List.length_append, ih]; simp; omega

theorem shape {D data : List Int} {x lo hi why : Nat} {k : Int} (h : IsR D x lo hi why k data) :
    numAt D 0 = x ∧ numAt D 4 = 1 ∧ 20 ≤ D.length ∧
    ((k = 6 ∧ numAt D 8 = 1 ∧ numAt D 12 = 0 ∧ D.length = 24 ∧ numAt D 16 = lo ∧ numAt D 20 = hi ∧ why = 0 ∧ data = []) ∨
     (k = 7 ∧ numAt D 8 = 1 ∧ numAt D 12 = 1 ∧ D.length = 20 ∧ numAt D 16 = why ∧ lo = 0 ∧ hi = 0 ∧ data = []) ∨
     (k = 2 ∧ numAt D 8 = 0 ∧ numAt D 12 = 0 ∧ numAt D 16 = 0 ∧ numAt D 20 = 2 ∧ D.length = 32 ∧ numAt D 24 = lo ∧ numAt D 28 = hi ∧ why = 0 ∧ data = []) ∨
     (0 ≤ k ∧ k ≤ 5 ∧ k ≠ 2 ∧ numAt D 8 = 0 ∧ numAt D 12 = 0 ∧ numAt D 16 = 0 ∧ numAt D 20 = k.toNat ∧ 24 ≤ D.length ∧ lo = 0 ∧ hi = 0 ∧ why = 0 ∧ data = D.drop 24 ∧ (k = 0 ∨ data = []))) := by
  obtain ⟨ho, he, hx, hl, hh, hy⟩ := h
  have hk := ok_kind ho
  have hb := wds_bnd hx hl hh hy hk
  have hd : D.drop 0 = ((wds x lo hi why k).map (be 4)).flatten ++ data := by rw [List.drop_zero, ← he]; rfl
  have hn := numAt_words _ 0 hd hb
  have hlen : D.length = 4 * (wds x lo hi why k).length + data.length := by rw [← he]; unfold encR; rw [List.length_append, words_len]
  have hdr : D.drop (4 * (wds x lo hi why k).length) = data := by
    have := drop_more hd
    rwa [words_len, Nat.zero_add] at this
  by_cases h6 : k = 6
  · have e : wds x lo hi why k = [x, 1, 1, 0, lo, hi] := by unfold wds; rw [if_pos h6]
    rw [e] at hn hlen
    have hw : why = 0 ∧ data.length = 0 := by
      subst h6; unfold okR at ho; simp at ho
      exact ⟨ho.1, by simp [ho.2]⟩
    have hdat : data = [] := List.length_eq_zero_iff.1 hw.2
    subst hdat
    simp only [List.length_cons, List.length_nil] at hlen hn
    exact ⟨hn 0 (by decide), hn 1 (by decide), by omega, .inl ⟨h6, hn 2 (by decide), hn 3 (by decide), by omega, hn 4 (by decide), hn 5 (by decide), hw.1, rfl⟩⟩
  by_cases h7 : k = 7
  · have e : wds x lo hi why k = [x, 1, 1, 1, why] := by unfold wds; rw [if_neg h6, if_pos h7]
    rw [e] at hn hlen
    have hw : lo = 0 ∧ hi = 0 ∧ data.length = 0 := by
      subst h7; unfold okR at ho; simp at ho
      exact ⟨ho.1, ho.2.1, by simp [ho.2.2]⟩
    have hdat : data = [] := List.length_eq_zero_iff.1 hw.2.2
    subst hdat
    simp only [List.length_cons, List.length_nil] at hlen hn
    exact ⟨hn 0 (by decide), hn 1 (by decide), by omega, .inr (.inl ⟨h7, hn 2 (by decide), hn 3 (by decide), by omega, hn 4 (by decide), hw.1, hw.2.1, rfl⟩)⟩
  by_cases h2 : k = 2
  · have e : wds x lo hi why k = [x, 1, 0, 0, 0, 2, lo, hi] := by unfold wds; rw [if_neg h6, if_neg h7, if_pos h2]
    rw [e] at hn hlen
    have hw : why = 0 ∧ data.length = 0 := by
      subst h2; unfold okR at ho; simp at ho
      exact ⟨ho.1, by simp [ho.2]⟩
    have hdat : data = [] := List.length_eq_zero_iff.1 hw.2
    subst hdat
    simp only [List.length_cons, List.length_nil] at hlen hn
    exact ⟨hn 0 (by decide), hn 1 (by decide), by omega, .inr (.inr (.inl ⟨h2, hn 2 (by decide), hn 3 (by decide), hn 4 (by decide), hn 5 (by decide), by omega, hn 6 (by decide), hn 7 (by decide), hw.1, rfl⟩))⟩
  · have e : wds x lo hi why k = [x, 1, 0, 0, 0, k.toNat] := by unfold wds; rw [if_neg h6, if_neg h7, if_neg h2]
    rw [e] at hn hlen hdr
    have hw : lo = 0 ∧ hi = 0 ∧ why = 0 ∧ (k = 0 ∨ data.length = 0) := by
      rcases hk with rfl | rfl | rfl | rfl | rfl | rfl | rfl | rfl
      · unfold okR at ho; simp at ho; exact ⟨ho.1, ho.2.1, ho.2.2, .inl rfl⟩
      · unfold okR at ho; simp at ho; exact ⟨ho.1, ho.2.1, ho.2.2.1, .inr (by simp [ho.2.2.2])⟩
      · exact absurd rfl h2
      · unfold okR at ho; simp at ho; exact ⟨ho.1, ho.2.1, ho.2.2.1, .inr (by simp [ho.2.2.2])⟩
      · unfold okR at ho; simp at ho; exact ⟨ho.1, ho.2.1, ho.2.2.1, .inr (by simp [ho.2.2.2])⟩
      · unfold okR at ho; simp at ho; exact ⟨ho.1, ho.2.1, ho.2.2.1, .inr (by simp [ho.2.2.2])⟩
      · exact absurd rfl h6
      · exact absurd rfl h7
    simp only [List.length_cons, List.length_nil] at hlen hn hdr
    refine ⟨hn 0 (by decide), hn 1 (by decide), by omega, .inr (.inr (.inr ⟨by omega, by omega, h2, hn 2 (by decide), hn 3 (by decide), hn 4 (by decide), hn 5 (by decide), by omega, hw.1, hw.2.1, hw.2.2.1, hdr.symm, ?_⟩))⟩
    rcases hw.2.2.2 with h | h
    · exact .inl h
    · exact .inr (List.length_eq_zero_iff.1 h)

theorem both_uint3 {N a : Nat} {w p : Int} {D : List Int} (hb : Bts D) (ha : a ≤ D.length) (hD : D.length < 1000000) (hN : 8 < N) :
    ∃ (v a' : Nat) (w' p' : Int), a' ≤ D.length ∧ v < 4294967296 ∧ xdr_Reader_Uint N ((a : Int), w, p, D) = some ((v : Int), (a' : Int), w', p', D) ∧ True ∧
      (w = 0 → a + 4 ≤ D.length → w' = 0 ∧ a' = a + 4 ∧ v = numAt D a) := by
  by_cases hw : w = 0
  · subst hw
    rw [uint_ok hb ha hD hN]
    by_cases h : D.length < a + 4
    · rw [if_pos h]; exact ⟨0, a, 3, a, ha, by decide, rfl, trivial, fun _ h2 => absurd h2 (by omega)⟩
    · rw [if_neg h]; exact ⟨numAt D a, a + 4, 0, p, by omega, numAt_lt hb a, rfl, trivial, fun _ _ => ⟨rfl, rfl, rfl⟩⟩
  · rw [uint_bad hw]; exact ⟨0, a, w, p, ha, by decide, rfl, trivial, fun h => absurd h hw⟩

theorem rest_ok {a : Nat} {w p : Int} {D : List Int} (ha : a ≤ D.length) (hD : D.length < 1000000) : rpc_rest (D, (a : Int), w, p, D) = some ((a : Int), w, p, D, D.drop a) := by
  unfold rpc_rest xdr_Reader_Left xdr_Reader_At
  dsimp only
  rw [Option.bind_some]
  dsimp only
  rw [wrapF_i64 (by omega) (by omega)]
  by_cases h : D.length = a
  · rw [deT (by omega), cond_true, List.drop_of_length_le (by omega)]
  · have ht : List.take (D.length - a) (List.drop a D) = D.drop a := List.take_of_length_le (by simp)
    rw [deF (by omega), cond_false, Option.bind_some]
    dsimp only
    rw [deT (p := (0 : Int) ≤ (a : Int)) (by omega), deT (p := (a : Int) ≤ (D.length : Int)) (by omega), deT (p := (D.length : Int) ≤ (D.length : Int)) (by omega), Bool.and_self, Bool.and_self, cond_true, Int.toNat_natCast, ht, clone1_ok (by simp; omega), Option.bind_some]

theorem equal_loop {N : Nat} {x y : List Int} (hxy : x.length = y.length) (hx : x.length < 1000000) : ∀ (d f i : Nat), i + d = x.length → d < f →
    loopF (slices_Equal_byte_byte_b0 N) f (x, y, ((x.length : Nat) : Int), (i : Int)) = some (if x.drop i = y.drop i then .inr () else .inl ()) := by
  intro d
  induction d with
  | zero =>
    intro f i hi hf
    obtain ⟨f, rfl⟩ : ∃ g, f = g + 1 := ⟨f - 1, by omega⟩
    show slices_Equal_byte_byte_b0 N _ _ = _
    unfold slices_Equal_byte_byte_b0
    dsimp only
    rw [deF (by omega), cond_false, List.drop_of_length_le (by omega), List.drop_of_length_le (by omega), if_pos rfl]
  | succ d ih =>
    intro f i hi hf
    obtain ⟨f, rfl⟩ : ∃ g, f = g + 1 := ⟨f - 1, by omega⟩
    show slices_Equal_byte_byte_b0 N (loopF (slices_Equal_byte_byte_b0 N) f) _ = _
    have ih := ih f (i + 1) (by omega) (by omega)
    generalize loopF (slices_Equal_byte_byte_b0 N) f = nx at ih
    unfold slices_Equal_byte_byte_b0
    dsimp only
    have h1 : i < x.length := by omega
    have h2 : i < y.length := by omega
    have g1 : List.getD x i (EK.dflt (.int .u8)) = x[i] := by rw [List.getD, List.getElem?_eq_getElem h1]; rfl
    have g2 : List.getD y i (EK.dflt (.int .u8)) = y[i] := by rw [List.getD, List.getElem?_eq_getElem h2]; rfl
    rw [deT (p := (i : Int) < ((x.length : Nat) : Int)) (by omega), cond_true, deT (p := (0 : Int) ≤ (i : Int)) (by omega), deT (p := (i : Int) < ((y.length : Nat) : Int)) (by omega), Bool.and_self, cond_true, cond_true, Int.toNat_natCast, g1, g2, List.drop_eq_getElem_cons h1, List.drop_eq_getElem_cons h2]
    by_cases h : x[i] = y[i]
    · rw [deT h, Bool.not_true, cond_false, wrapF_i64 (by omega) (by omega), show (i : Int) + 1 = ((i + 1 : Nat) : Int) by omega, ih, h]
      by_cases h3 : x.drop (i + 1) = y.drop (i + 1)
      · rw [if_pos h3, if_pos (by rw [h3])]
      · rw [if_neg h3, if_neg (fun h4 => h3 (List.cons.inj h4).2)]
    · rw [deF h, Bool.not_false, cond_true, if_neg (fun h4 => h (List.cons.inj h4).1)]

theorem equal_ok {N : Nat} {x y : List Int} (hx : x.length < 1000000) (hN : x.length < N) : slices_Equal_byte_byte N (x, y) = some (decide (x = y)) := by
  unfold slices_Equal_byte_byte
  dsimp only
  by_cases h : x.length = y.length
  · rw [deT (by omega), Bool.not_true, cond_false]
    have := equal_loop (N := N) h hx x.length N 0 (by omega) hN
    rw [show (((0 : Nat)) : Int) = 0 from rfl, List.drop_zero, List.drop_zero] at this
    rw [show slices_Equal_byte_byte_l0 N = loopF (slices_Equal_byte_byte_b0 N) N from rfl, this, Option.bind_some]
    by_cases e : x = y
    · rw [if_pos e, deT e]
    · rw [if_neg e, deF e]
  · rw [deF (by omega), Bool.not_false, cond_true, deF (fun e => h (by rw [e]))]

/-- What comes of a reply that was read. -/
def finR (D : List Int) (x lo hi why : Nat) (k w : Int) (data : List Int) : Int × Int × Int × Int × Int × Int × List Int :=
  if w = 0 ∧ okR k lo hi why data.length = true ∧ encR x lo hi why k data = D then ((x : Int), k, (lo : Int), (hi : Int), (why : Int), 0, data) else (0, 0, 0, 0, 0, 212, [])

theorem enc_len (x lo hi why : Nat) (k : Int) (data : List Int) : (encR x lo hi why k data).length ≤ 32 + data.length := by
  unfold encR
  rw [List.length_append, words_len]
  unfold wds
  split
  · simp
  split
  · simp
  split
  · simp
  · simp

theorem tail_ok {N x lo hi why : Nat} {k w : Int} {a p : Int} {D data : List Int} (hx : x < 4294967296) (hl : lo < 4294967296) (hh : hi < 4294967296) (hy : why < 4294967296) (hd : data.length ≤ 20100) (hN : 25000 < N) :
    (Option.bind (rpc_PutReply_v1 N ((x : Int), k, (lo : Int), (hi : Int), (why : Int), data)) fun r30 =>
  (Option.bind (xdr_Reader_Why (a, w, p, D)) fun r31 =>
  (Option.bind
  (cond (!(decide (r31.1 = (0 : Int))))
  (some true)
  (cond (!(decide (r30.1 = (0 : Int))))
  (some true)
  (Option.bind (slices_Equal_byte_byte N (r30.2, D)) fun r34 =>
  (some (!r34)))))
  fun r36 =>
  (cond r36
  (some ((0 : Int), (0 : Int), (0 : Int), (0 : Int), (0 : Int), (212 : Int), ([] : List Int)))
  (some ((x : Int), k, (lo : Int), (hi : Int), (why : Int), (0 : Int), data)))))) = some (finR D x lo hi why k w data) := by
  have hlen := enc_len x lo hi why k data
  rw [putReply1_eq, putReply_ok hx hl hh hy (by omega) (by omega), Option.bind_some]
  rw [show xdr_Reader_Why (a, w, p, D) = some (w, p, a, w, p, D) from rfl, Option.bind_some]
  dsimp only
  unfold finR
  by_cases hw : w = 0
  · rw [deT hw, Bool.not_true, cond_false]
    cases ho : okR k lo hi why data.length with
    | false =>
      rw [if_neg (fun h => by simp at h)]
      rfl
    | true =>
      rw [cond_true]
      dsimp only
      rw [equal_ok (by omega) (by omega), Option.bind_some]
      by_cases e : encR x lo hi why k data = D
      · rw [deT e, if_pos ⟨hw, rfl, e⟩]; rfl
      · rw [deF e, if_neg (fun h => e h.2.2)]; rfl
  · rw [deF hw, if_neg (fun h => hw h.1)]; rfl

theorem byte11 {D : List Int} (hb : Bts D) (h : 12 ≤ D.length) : ((numAt D 8 % 256 : Nat) : Int) = List.getD D 11 (EK.dflt (.int .u8)) := by
  have h1 : 3 < (D.drop 8).length := by simp; omega
  have h2 := val_take h1
  have h3 : (D.drop 8).getD 3 0 = D.getD 11 0 := by simp [List.getD]
  have h4 : 0 ≤ D.getD 11 0 ∧ D.getD 11 0 < 256 := by
    rw [List.getD, List.getElem?_eq_getElem (by omega)]
    exact hb _ (List.getElem_mem _)
  show _ = D.getD 11 0
  unfold numAt
  rw [h2, h3]
  omega

theorem getReply_ok {N : Nat} {D : List Int} (hb : Bts D) (hD : D.length ≤ 20100) (hN : 25000 < N) :
    ∃ (x lo hi why : Nat) (k w : Int) (data : List Int), x < 4294967296 ∧ lo < 4294967296 ∧ hi < 4294967296 ∧ why < 4294967296 ∧ 0 ≤ k ∧ k < 4294967296 ∧ data.length ≤ D.length ∧
      rpc_GetReply N D = some (finR D x lo hi why k w data) ∧
      (∀ x' lo' hi' why' k' data', IsR D x' lo' hi' why' k' data' → w = 0 ∧ x = x' ∧ lo = lo' ∧ hi = hi' ∧ why = why' ∧ k = k' ∧ data = data') := by
  have hD' : D.length < 1000000 := by omega
  obtain ⟨v0, a0, w0, p0, k0, i0, e0, _, t0⟩ := both_uint3 (N := N) (a := 0) (w := 0) (p := 0) hb (Nat.zero_le _) hD' (by omega)
  obtain ⟨v1, a1, w1, p1, k1, i1, e1, _, t1⟩ := both_uint3 (N := N) (w := w0) (p := p0) hb k0 hD' (by omega)
  obtain ⟨v2, a2, w2, p2, k2, i2, e2, _, t2⟩ := both_uint3 (N := N) (w := w1) (p := p1) hb k1 hD' (by omega)
  rw [show (((0 : Nat)) : Int) = 0 from rfl] at e0
  unfold rpc_GetReply xdr_NewReader
  rw [clone1_ok hD', Option.bind_some, Option.bind_some, e0, Option.bind_some]
  dsimp only
  rw [e1, Option.bind_some]
  dsimp only
  rw [e2, Option.bind_some]
  dsimp only
  by_cases q : (v2 : Int) = 1
  · obtain ⟨v3, a3, w3, p3, k3, i3, e3, _, t3⟩ := both_uint3 (N := N) (w := w2) (p := p2) hb k2 hD' (by omega)
    rw [deT q, cond_true, e3, Option.bind_some, Option.bind_some]
    dsimp only
    by_cases r : (v3 : Int) = 0
    · obtain ⟨v4, a4, w4, p4, k4, i4, e4, _, t4⟩ := both_uint3 (N := N) (w := w3) (p := p3) hb k3 hD' (by omega)
      obtain ⟨v5, a5, w5, p5, k5, i5, e5, _, t5⟩ := both_uint3 (N := N) (w := w4) (p := p4) hb k4 hD' (by omega)
      rw [deT r, cond_true, e4, Option.bind_some]
      dsimp only
      rw [e5, Option.bind_some, Option.bind_some]
      dsimp only
      refine ⟨v0, v4, v5, 0, 6, w5, [], i0, i4, i5, by decide, by omega, by omega, by simp, tail_ok (why := 0) i0 i4 i5 (by decide) (by simp) hN, ?_⟩
      intro x' lo' hi' why' k' data' hI
      obtain ⟨e0, e4, e20, hs⟩ := shape hI
      obtain ⟨f0, f0', f0v⟩ := t0 rfl (by omega)
      have F0 : a0 = 4 := by omega
      subst F0
      obtain ⟨f1, f1', f1v⟩ := t1 f0 (by omega)
      have F1 : a1 = 8 := by omega
      subst F1
      obtain ⟨f2, f2', f2v⟩ := t2 f1 (by omega)
      have F2 : a2 = 12 := by omega
      subst F2
      obtain ⟨f3, f3', f3v⟩ := t3 f2 (by omega)
      have F3 : a3 = 16 := by omega
      subst F3
      rcases hs with ⟨g1, g2, g3, g4, g5, g6, g7, g8⟩ | ⟨g1, g2, g3, g4, _⟩ | ⟨g1, g2, g3, g4, _⟩ | ⟨_, _, g1, g2, g3, g4, _⟩
      · obtain ⟨f4, f4', f4v⟩ := t4 f3 (by omega)
        have F4 : a4 = 20 := by omega
        subst F4
        obtain ⟨f5, f5', f5v⟩ := t5 f4 (by omega)
        have F5 : a5 = 24 := by omega
        subst F5
        exact ⟨f5, by omega, by omega, by omega, by omega, by omega, g8.symm⟩
      · exfalso; omega
      · exfalso; omega
      · exfalso; omega
    rw [deF r, cond_false]
    have h15e : ∃ z : Bool, (bif decide ((16 : Int) ≤ ((D.length : Nat) : Int)) then (bif decide ((11 : Int) < ((D.length : Nat) : Int)) then some (decide (List.getD D 11 (EK.dflt (.int .u8)) = 1)) else none) else some false) = some z ∧ (16 ≤ D.length → (z = true ↔ List.getD D 11 (EK.dflt (.int .u8)) = 1)) := by
      by_cases c : 16 ≤ D.length
      · rw [deT (p := (16 : Int) ≤ ((D.length : Nat) : Int)) (by omega), deT (p := (11 : Int) < ((D.length : Nat) : Int)) (by omega)]
        exact ⟨_, rfl, fun _ => decide_eq_true_iff⟩
      · rw [deF (p := (16 : Int) ≤ ((D.length : Nat) : Int)) (by omega)]
        exact ⟨false, rfl, fun h => absurd h c⟩
    obtain ⟨z, hz, h15⟩ := h15e
    rw [hz, Option.bind_some]
    cases z with
    | true =>
      obtain ⟨v4, a4, w4, p4, k4, i4, e4, _, t4⟩ := both_uint3 (N := N) (w := w3) (p := p3) hb k3 hD' (by omega)
      rw [cond_true, e4, Option.bind_some, Option.bind_some, Option.bind_some]
      dsimp only
      refine ⟨v0, 0, 0, v4, 7, w4, [], i0, by decide, by decide, i4, by omega, by omega, by simp, tail_ok (lo := 0) (hi := 0) i0 (by decide) (by decide) i4 (by simp) hN, ?_⟩
      intro x' lo' hi' why' k' data' hI
      obtain ⟨e0, e4, e20, hs⟩ := shape hI
      obtain ⟨f0, f0', f0v⟩ := t0 rfl (by omega)
      have F0 : a0 = 4 := by omega
      subst F0
      obtain ⟨f1, f1', f1v⟩ := t1 f0 (by omega)
      have F1 : a1 = 8 := by omega
      subst F1
      obtain ⟨f2, f2', f2v⟩ := t2 f1 (by omega)
      have F2 : a2 = 12 := by omega
      subst F2
      obtain ⟨f3, f3', f3v⟩ := t3 f2 (by omega)
      have F3 : a3 = 16 := by omega
      subst F3
      rcases hs with ⟨g1, g2, g3, g4, g5, g6, g7, g8⟩ | ⟨g1, g2, g3, g4, g5, g6, g7, g8⟩ | ⟨g1, g2, g3, g4, _⟩ | ⟨_, _, g1, g2, g3, g4, _⟩
      · exfalso; omega
      · obtain ⟨f4, f4', f4v⟩ := t4 f3 (by omega)
        have F4 : a4 = 20 := by omega
        subst F4
        exact ⟨f4, by omega, by omega, by omega, by omega, by omega, g8.symm⟩
      · exfalso; omega
      · exfalso; omega
    | false =>
      rw [cond_false]
      have h15 : 16 ≤ D.length → ¬ List.getD D 11 (EK.dflt (.int .u8)) = 1 := fun h c => by have := (h15 h).2 c; cases this
      obtain ⟨m1, b1, y1, z1, n1, c1, s1, _, t4⟩ := both_uint3 (N := N) (w := w3) (p := p3) hb k3 hD' (by omega)
      obtain ⟨m2, b2, y2, z2, n2, c2, s2, _, t5⟩ := both_uint3 (N := N) (w := y1) (p := z1) hb n1 hD' (by omega)
      obtain ⟨m3, b3, y3, z3, n3, c3, s3, _, t6⟩ := both_uint3 (N := N) (w := y2) (p := z2) hb n2 hD' (by omega)
      rw [s1, Option.bind_some]
      dsimp only
      rw [s2, Option.bind_some]
      dsimp only
      rw [s3, Option.bind_some]
      dsimp only
      rw [wrapF_i64 (n := (m3 : Int)) (by omega) (by omega)]
      by_cases q2 : (m3 : Int) = 2
      · obtain ⟨m4, b4, y4, z4, n4, c4, s4, _, t7⟩ := both_uint3 (N := N) (w := y3) (p := z3) hb n3 hD' (by omega)
        obtain ⟨m5, b5, y5, z5, n5, c5, s5, _, t8⟩ := both_uint3 (N := N) (w := y4) (p := z4) hb n4 hD' (by omega)
        rw [deT q2, cond_true, deF (p := (m3 : Int) = 0) (by omega), s4, Option.bind_some]
        dsimp only
        rw [s5, Option.bind_some, Option.bind_some, cond_false, Option.bind_some, Option.bind_some, Option.bind_some]
        dsimp only
        refine ⟨v0, m4, m5, 0, m3, y5, [], i0, c4, c5, by decide, by omega, by omega, by simp, tail_ok (why := 0) i0 c4 c5 (by decide) (by simp) hN, ?_⟩
        intro x' lo' hi' why' k' data' hI
        exfalso
        obtain ⟨e0, e4, e20, hs⟩ := shape hI
        obtain ⟨f0, f0', f0v⟩ := t0 rfl (by omega)
        have F0 : a0 = 4 := by omega
        subst F0
        obtain ⟨f1, f1', f1v⟩ := t1 f0 (by omega)
        have F1 : a1 = 8 := by omega
        subst F1
        obtain ⟨f2, f2', f2v⟩ := t2 f1 (by omega)
        have F2 : a2 = 12 := by omega
        subst F2
        have h11 := byte11 hb (show 12 ≤ D.length by omega)
        have h15' := h15 (by omega)
        rcases hs with ⟨g1, g2, g3, g4, _⟩ | ⟨g1, g2, g3, g4, _⟩ | ⟨g1, g2, g3, g4, g5, g6, _⟩ | ⟨_, _, g1, g2, g3, g4, g5, g6, _⟩ <;> omega
      rw [deF q2, cond_false, Option.bind_some]
      by_cases q0 : (m3 : Int) = 0
      · rw [deT q0, cond_true, rest_ok n3 hD', Option.bind_some, Option.bind_some, Option.bind_some, Option.bind_some]
        dsimp only
        refine ⟨v0, 0, 0, 0, m3, y3, D.drop b3, i0, by decide, by decide, by decide, by omega, by omega, by simp, tail_ok (lo := 0) (hi := 0) (why := 0) i0 (by decide) (by decide) (by decide) (by simp; omega) hN, ?_⟩
        intro x' lo' hi' why' k' data' hI
        exfalso
        obtain ⟨e0, e4, e20, hs⟩ := shape hI
        obtain ⟨f0, f0', f0v⟩ := t0 rfl (by omega)
        have F0 : a0 = 4 := by omega
        subst F0
        obtain ⟨f1, f1', f1v⟩ := t1 f0 (by omega)
        have F1 : a1 = 8 := by omega
        subst F1
        obtain ⟨f2, f2', f2v⟩ := t2 f1 (by omega)
        have F2 : a2 = 12 := by omega
        subst F2
        have h11 := byte11 hb (show 12 ≤ D.length by omega)
        have h15' := h15 (by omega)
        rcases hs with ⟨g1, g2, g3, g4, _⟩ | ⟨g1, g2, g3, g4, _⟩ | ⟨g1, g2, g3, g4, g5, g6, _⟩ | ⟨_, _, g1, g2, g3, g4, g5, g6, _⟩ <;> omega
      · rw [deF q0, cond_false, Option.bind_some, Option.bind_some, Option.bind_some]
        dsimp only
        refine ⟨v0, 0, 0, 0, m3, y3, [], i0, by decide, by decide, by decide, by omega, by omega, by simp, tail_ok (lo := 0) (hi := 0) (why := 0) i0 (by decide) (by decide) (by decide) (by simp) hN, ?_⟩
        intro x' lo' hi' why' k' data' hI
        exfalso
        obtain ⟨e0, e4, e20, hs⟩ := shape hI
        obtain ⟨f0, f0', f0v⟩ := t0 rfl (by omega)
        have F0 : a0 = 4 := by omega
        subst F0
        obtain ⟨f1, f1', f1v⟩ := t1 f0 (by omega)
        have F1 : a1 = 8 := by omega
        subst F1
        obtain ⟨f2, f2', f2v⟩ := t2 f1 (by omega)
        have F2 : a2 = 12 := by omega
        subst F2
        have h11 := byte11 hb (show 12 ≤ D.length by omega)
        have h15' := h15 (by omega)
        rcases hs with ⟨g1, g2, g3, g4, _⟩ | ⟨g1, g2, g3, g4, _⟩ | ⟨g1, g2, g3, g4, g5, g6, _⟩ | ⟨_, _, g1, g2, g3, g4, g5, g6, _⟩ <;> omega
  rw [deF q, cond_false, Option.bind_some]
  dsimp only
  rw [cond_false]
  have h15e : ∃ z : Bool, (bif decide ((16 : Int) ≤ ((D.length : Nat) : Int)) then (bif decide ((11 : Int) < ((D.length : Nat) : Int)) then some (decide (List.getD D 11 (EK.dflt (.int .u8)) = 1)) else none) else some false) = some z ∧ (z = true → List.getD D 11 (EK.dflt (.int .u8)) = 1) := by
    by_cases c : 16 ≤ D.length
    · rw [deT (p := (16 : Int) ≤ ((D.length : Nat) : Int)) (by omega), deT (p := (11 : Int) < ((D.length : Nat) : Int)) (by omega)]
      exact ⟨_, rfl, fun h => decide_eq_true_iff.1 h⟩
    · rw [deF (p := (16 : Int) ≤ ((D.length : Nat) : Int)) (by omega)]
      exact ⟨false, rfl, fun h => by cases h⟩
  obtain ⟨z, hz, h15⟩ := h15e
  rw [hz, Option.bind_some]
  cases z with
  | true =>
    have h15 := h15 rfl
    obtain ⟨v4, a4, w4, p4, k4, i4, e4, _, t4⟩ := both_uint3 (N := N) (w := w2) (p := p2) hb k2 hD' (by omega)
    rw [cond_true, e4, Option.bind_some, Option.bind_some, Option.bind_some]
    dsimp only
    refine ⟨v0, 0, 0, v4, 7, w4, [], i0, by decide, by decide, i4, by omega, by omega, by simp, tail_ok (lo := 0) (hi := 0) i0 (by decide) (by decide) i4 (by simp) hN, ?_⟩
    intro x' lo' hi' why' k' data' hI
    exfalso
    obtain ⟨e0, e4, e20, hs⟩ := shape hI
    obtain ⟨f0, f0', f0v⟩ := t0 rfl (by omega)
    have F0 : a0 = 4 := by omega
    subst F0
    obtain ⟨f1, f1', f1v⟩ := t1 f0 (by omega)
    have F1 : a1 = 8 := by omega
    subst F1
    obtain ⟨f2, f2', f2v⟩ := t2 f1 (by omega)
    have F2 : a2 = 12 := by omega
    subst F2
    have h11 := byte11 hb (show 12 ≤ D.length by omega)
    have h15' := h15
    rcases hs with ⟨g1, g2, g3, g4, _⟩ | ⟨g1, g2, g3, g4, _⟩ | ⟨g1, g2, g3, g4, g5, g6, _⟩ | ⟨_, _, g1, g2, g3, g4, g5, g6, _⟩ <;> omega
  | false =>
    rw [cond_false]
    obtain ⟨m1, b1, y1, z1, n1, c1, s1, _, t4⟩ := both_uint3 (N := N) (w := w2) (p := p2) hb k2 hD' (by omega)
    obtain ⟨m2, b2, y2, z2, n2, c2, s2, _, t5⟩ := both_uint3 (N := N) (w := y1) (p := z1) hb n1 hD' (by omega)
    obtain ⟨m3, b3, y3, z3, n3, c3, s3, _, t6⟩ := both_uint3 (N := N) (w := y2) (p := z2) hb n2 hD' (by omega)
    rw [s1, Option.bind_some]
    dsimp only
    rw [s2, Option.bind_some]
    dsimp only
    rw [s3, Option.bind_some]
    dsimp only
    rw [wrapF_i64 (n := (m3 : Int)) (by omega) (by omega)]
    by_cases q2 : (m3 : Int) = 2
    · obtain ⟨m4, b4, y4, z4, n4, c4, s4, _, t7⟩ := both_uint3 (N := N) (w := y3) (p := z3) hb n3 hD' (by omega)
      obtain ⟨m5, b5, y5, z5, n5, c5, s5, _, t8⟩ := both_uint3 (N := N) (w := y4) (p := z4) hb n4 hD' (by omega)
      rw [deT q2, cond_true, deF (p := (m3 : Int) = 0) (by omega), s4, Option.bind_some]
      dsimp only
      rw [s5, Option.bind_some, Option.bind_some, cond_false, Option.bind_some, Option.bind_some, Option.bind_some]
      dsimp only
      refine ⟨v0, m4, m5, 0, m3, y5, [], i0, c4, c5, by decide, by omega, by omega, by simp, tail_ok (why := 0) i0 c4 c5 (by decide) (by simp) hN, ?_⟩
      intro x' lo' hi' why' k' data' hI
      obtain ⟨e0, e4, e20, hs⟩ := shape hI
      obtain ⟨f0, f0', f0v⟩ := t0 rfl (by omega)
      have F0 : a0 = 4 := by omega
      subst F0
      obtain ⟨f1, f1', f1v⟩ := t1 f0 (by omega)
      have F1 : a1 = 8 := by omega
      subst F1
      obtain ⟨f2, f2', f2v⟩ := t2 f1 (by omega)
      have F2 : a2 = 12 := by omega
      subst F2
      have h11 := byte11 hb (show 12 ≤ D.length by omega)
      have h24 : 24 ≤ D.length := by rcases hs with ⟨g1, g2, g3, g4, _⟩ | ⟨g1, g2, g3, g4, _⟩ | ⟨g1, g2, g3, g4, g5, g6, _⟩ | ⟨_, _, g1, g2, g3, g4, g5, g6, _⟩ <;> omega
      obtain ⟨f4, f4', f4v⟩ := t4 f2 (by omega)
      have F4 : b1 = 16 := by omega
      subst F4
      obtain ⟨f5, f5', f5v⟩ := t5 f4 (by omega)
      have F5 : b2 = 20 := by omega
      subst F5
      obtain ⟨f6, f6', f6v⟩ := t6 f5 (by omega)
      have F6 : b3 = 24 := by omega
      subst F6
      rcases hs with ⟨g1, g2, g3, g4, _⟩ | ⟨g1, g2, g3, g4, _⟩ | ⟨g1, g2, g3, g4, g5, g6, g7, g8, g9, g10⟩ | ⟨i1, i2, g1, g2, g3, g4, g5, g6, g7, g8, g9, g10, g11⟩
      · exfalso; omega
      · exfalso; omega
      · obtain ⟨f7, f7', f7v⟩ := t7 f6 (by omega)
        have F7 : b4 = 28 := by omega
        subst F7
        obtain ⟨f8, f8', f8v⟩ := t8 f7 (by omega)
        have F8 : b5 = 32 := by omega
        subst F8
        exact ⟨f8, by omega, by omega, by omega, by omega, by omega, g10.symm⟩
      · exfalso; omega
    rw [deF q2, cond_false, Option.bind_some]
    by_cases q0 : (m3 : Int) = 0
    · rw [deT q0, cond_true, rest_ok n3 hD', Option.bind_some, Option.bind_some, Option.bind_some, Option.bind_some]
      dsimp only
      refine ⟨v0, 0, 0, 0, m3, y3, D.drop b3, i0, by decide, by decide, by decide, by omega, by omega, by simp, tail_ok (lo := 0) (hi := 0) (why := 0) i0 (by decide) (by decide) (by decide) (by simp; omega) hN, ?_⟩
      intro x' lo' hi' why' k' data' hI
      obtain ⟨e0, e4, e20, hs⟩ := shape hI
      obtain ⟨f0, f0', f0v⟩ := t0 rfl (by omega)
      have F0 : a0 = 4 := by omega
      subst F0
      obtain ⟨f1, f1', f1v⟩ := t1 f0 (by omega)
      have F1 : a1 = 8 := by omega
      subst F1
      obtain ⟨f2, f2', f2v⟩ := t2 f1 (by omega)
      have F2 : a2 = 12 := by omega
      subst F2
      have h11 := byte11 hb (show 12 ≤ D.length by omega)
      have h24 : 24 ≤ D.length := by rcases hs with ⟨g1, g2, g3, g4, _⟩ | ⟨g1, g2, g3, g4, _⟩ | ⟨g1, g2, g3, g4, g5, g6, _⟩ | ⟨_, _, g1, g2, g3, g4, g5, g6, _⟩ <;> omega
      obtain ⟨f4, f4', f4v⟩ := t4 f2 (by omega)
      have F4 : b1 = 16 := by omega
      subst F4
      obtain ⟨f5, f5', f5v⟩ := t5 f4 (by omega)
      have F5 : b2 = 20 := by omega
      subst F5
      obtain ⟨f6, f6', f6v⟩ := t6 f5 (by omega)
      have F6 : b3 = 24 := by omega
      subst F6
      rcases hs with ⟨g1, g2, g3, g4, _⟩ | ⟨g1, g2, g3, g4, _⟩ | ⟨g1, g2, g3, g4, g5, g6, g7, g8, g9, g10⟩ | ⟨i1, i2, g1, g2, g3, g4, g5, g6, g7, g8, g9, g10, g11⟩
      · exfalso; omega
      · exfalso; omega
      · exfalso; omega
      · exact ⟨f6, by omega, by omega, by omega, by omega, by omega, g10.symm⟩
    · rw [deF q0, cond_false, Option.bind_some, Option.bind_some, Option.bind_some]
      dsimp only
      refine ⟨v0, 0, 0, 0, m3, y3, [], i0, by decide, by decide, by decide, by omega, by omega, by simp, tail_ok (lo := 0) (hi := 0) (why := 0) i0 (by decide) (by decide) (by decide) (by simp) hN, ?_⟩
      intro x' lo' hi' why' k' data' hI
      obtain ⟨e0, e4, e20, hs⟩ := shape hI
      obtain ⟨f0, f0', f0v⟩ := t0 rfl (by omega)
      have F0 : a0 = 4 := by omega
      subst F0
      obtain ⟨f1, f1', f1v⟩ := t1 f0 (by omega)
      have F1 : a1 = 8 := by omega
      subst F1
      obtain ⟨f2, f2', f2v⟩ := t2 f1 (by omega)
      have F2 : a2 = 12 := by omega
      subst F2
      have h11 := byte11 hb (show 12 ≤ D.length by omega)
      have h24 : 24 ≤ D.length := by rcases hs with ⟨g1, g2, g3, g4, _⟩ | ⟨g1, g2, g3, g4, _⟩ | ⟨g1, g2, g3, g4, g5, g6, _⟩ | ⟨_, _, g1, g2, g3, g4, g5, g6, _⟩ <;> omega
      obtain ⟨f4, f4', f4v⟩ := t4 f2 (by omega)
      have F4 : b1 = 16 := by omega
      subst F4
      obtain ⟨f5, f5', f5v⟩ := t5 f4 (by omega)
      have F5 : b2 = 20 := by omega
      subst F5
      obtain ⟨f6, f6', f6v⟩ := t6 f5 (by omega)
      have F6 : b3 = 24 := by omega
      subst F6
      rcases hs with ⟨g1, g2, g3, g4, _⟩ | ⟨g1, g2, g3, g4, _⟩ | ⟨g1, g2, g3, g4, g5, g6, g7, g8, g9, g10⟩ | ⟨i1, i2, g1, g2, g3, g4, g5, g6, g7, g8, g9, g10, g11⟩
      · exfalso; omega
      · exfalso; omega
      · exfalso; omega
      · refine ⟨f6, by omega, by omega, by omega, by omega, by omega, ?_⟩
        rcases g11 with h | h
        · exfalso; omega
        · exact h.symm

end Go.Rf.W.Pure
