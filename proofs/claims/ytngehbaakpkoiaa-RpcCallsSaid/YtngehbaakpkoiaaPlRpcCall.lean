/-
  Package rpc: calls, both ways.
-/
import Derived.Test.YtngehbaakpkoiaaPlRpcWr
set_option linter.unusedVariables false
set_option maxRecDepth 10000
namespace Go.Rf.W.Pure
open Go Go.Rf Go.Rf.W

/-- Numbers in a row, laid. -/
def wN (l : List Nat) : Nat → Int × List Int
  | 0 => (0, [])
  | i + 1 => wU (l.getD i 0) (wN l i)

theorem wN_len (l : List Nat) : ∀ i, (wN l i).2.length ≤ 4 * i
  | 0 => by simp [wN]
  | i + 1 => by
    have h1 := wN_len l i
    have h2 := wU_len (l.getD i 0) (wN l i)
    show (wU (l.getD i 0) (wN l i)).2.length ≤ _
    omega

def Er (s : Int × List Int) : Prop := s.1 = 0 ∨ s.1 = 1
theorem wU_er {n : Nat} {s : Int × List Int} (h : Er s) : Er (wU n s) := by
  unfold wU; split
  · exact .inl (by assumption)
  · exact h
theorem wO_er {l : List Int} {M : Int} {s : Int × List Int} (h : Er s) : Er (wO l M s) := by
  unfold wO; split
  · split
    · exact .inr rfl
    · exact .inl rfl
  · exact h
theorem wN_er (l : List Nat) : ∀ i, Er (wN l i)
  | 0 => .inl rfl
  | i + 1 => wU_er (wN_er l i)

theorem putAuth_ok {N n : Nat} {b : List Int} {s : Int × List Int} (hn : n < 4294967296) (hb : b.length ≤ 30000) (hs : s.2.length < 500000) (hN : 8 < N) :
    rpc_putAuth N ((n : Int), b, s.1, s.2) = some (wO b 400 (wU n s)) := by
  unfold rpc_putAuth
  dsimp only
  have h := wU_len n s
  rw [wuint1 (by omega) (by omega) hN, Option.bind_some, wopaque1 (by omega) hN, Option.bind_some]

theorem rputAuth_ok {N n : Nat} {b : List Int} {s : Int × List Int} (hn : n < 4294967296) (hb : b.length ≤ 30000) (hs : s.2.length < 500000) (hN : 8 < N) :
    granaryref21_putAuth N ((n : Int), b, s.1, s.2) = some (wO b 400 (wU n s)) := by
  unfold granaryref21_putAuth
  dsimp only
  have h := wU_len n s
  rw [rwuint1 (by omega), Option.bind_some, rwopaque (by omega) hN, Option.bind_some]

theorem nums_loop {N : Nat} {l : List Nat} {L : List Int} (hl : ∀ i, i < 6 → List.getD L i (EK.dflt (.int .u32)) = ((l.getD i 0 : Nat) : Int)) (hb : ∀ i, i < 6 → l.getD i 0 < 4294967296) (h6 : L.length = 6) (hN : 8 < N) :
    rpc_PutCall_l0 N (0, 6, (0 : Int), (0 : Int), L, []) = some ((wN l 6).1, L, (wN l 6).2) := by
  refine r_iter (b := rpc_PutCall_b0 N) (r := ((wN l 6).1, L, (wN l 6).2)) (fun i => (0, 6, (i : Int), (wN l i).1, L, (wN l i).2)) 6 (fun i hi nx => ?_) (fun nx => rfl) N (by omega)
  unfold rpc_PutCall_b0
  dsimp only
  have hlen := wN_len l i
  rw [deT (p := (i : Int) < 6) (by omega), cond_true, deT (p := (0 : Int) ≤ (i : Int)) (by omega), deT (p := (i : Int) < (((6 : Nat)) : Int)) (by omega), Bool.and_self, cond_true, Int.toNat_natCast, Nat.add_zero, deT (p := i < L.length) (by omega), cond_true, hl i hi, wuint1 (by have := hb i hi; omega) (by omega) hN, Option.bind_some, wrapF_i64 (by omega) (by omega)]
  rfl

theorem putCall_both {N x1 x2 x3 x4 x5 cf vf : Nat} {cb vb p : List Int} (h1 : x1 < 4294967296) (h2 : x2 < 4294967296) (h3 : x3 < 4294967296) (h4 : x4 < 4294967296) (h5 : x5 < 4294967296) (hc : cf < 4294967296) (hv : vf < 4294967296)
    (hcb : cb.length ≤ 30000) (hvb : vb.length ≤ 30000) (hp : p.length ≤ 30000) (hN : 8 < N) :
    ∃ r, rpc_PutCall N ((x1 : Int), (x2 : Int), (x3 : Int), (x4 : Int), (x5 : Int), (cf : Int), cb, (vf : Int), vb, p) = some r ∧ granaryref21_PutCall N ((x1 : Int), (x2 : Int), (x3 : Int), (x4 : Int), (x5 : Int), (cf : Int), cb, (vf : Int), vb, p) = some r := by
  have hl := nums_loop (N := N) (l := [x1, 0, x2, x3, x4, x5]) (L := [(x1 : Int), 0, (x2 : Int), (x3 : Int), (x4 : Int), (x5 : Int)])
    (fun i hi => by
      have : i = 0 ∨ i = 1 ∨ i = 2 ∨ i = 3 ∨ i = 4 ∨ i = 5 := by omega
      rcases this with rfl | rfl | rfl | rfl | rfl | rfl <;> rfl)
    (fun i hi => by
      have : i = 0 ∨ i = 1 ∨ i = 2 ∨ i = 3 ∨ i = 4 ∨ i = 5 := by omega
      rcases this with rfl | rfl | rfl | rfl | rfl | rfl <;> simp <;> omega) rfl hN
  have g1 : granaryref01_Writer_Uint ((x1 : Int), 0) = some (wN [x1, 0, x2, x3, x4, x5] 1) := rwuint0
  have g2 : granaryref01_Writer_Uint_v1 (0, (wN [x1, 0, x2, x3, x4, x5] 1).1, (wN [x1, 0, x2, x3, x4, x5] 1).2) = some (wN [x1, 0, x2, x3, x4, x5] 2) := rwuint1 (n := 0) (by have := wN_len [x1, 0, x2, x3, x4, x5] 1; omega)
  have g3 : granaryref01_Writer_Uint_v1 ((x2 : Int), (wN [x1, 0, x2, x3, x4, x5] 2).1, (wN [x1, 0, x2, x3, x4, x5] 2).2) = some (wN [x1, 0, x2, x3, x4, x5] 3) := rwuint1 (n := x2) (by have := wN_len [x1, 0, x2, x3, x4, x5] 2; omega)
  have g4 : granaryref01_Writer_Uint_v1 ((x3 : Int), (wN [x1, 0, x2, x3, x4, x5] 3).1, (wN [x1, 0, x2, x3, x4, x5] 3).2) = some (wN [x1, 0, x2, x3, x4, x5] 4) := rwuint1 (n := x3) (by have := wN_len [x1, 0, x2, x3, x4, x5] 3; omega)
  have g5 : granaryref01_Writer_Uint_v1 ((x4 : Int), (wN [x1, 0, x2, x3, x4, x5] 4).1, (wN [x1, 0, x2, x3, x4, x5] 4).2) = some (wN [x1, 0, x2, x3, x4, x5] 5) := rwuint1 (n := x4) (by have := wN_len [x1, 0, x2, x3, x4, x5] 4; omega)
  have g6 : granaryref01_Writer_Uint_v1 ((x5 : Int), (wN [x1, 0, x2, x3, x4, x5] 5).1, (wN [x1, 0, x2, x3, x4, x5] 5).2) = some (wN [x1, 0, x2, x3, x4, x5] 6) := rwuint1 (n := x5) (by have := wN_len [x1, 0, x2, x3, x4, x5] 5; omega)
  have hlen := wN_len [x1, 0, x2, x3, x4, x5] 6
  have her := wN_er [x1, 0, x2, x3, x4, x5] 6
  unfold rpc_PutCall granaryref21_PutCall
  dsimp only
  rw [g1, Option.bind_some, g2, Option.bind_some, g3, Option.bind_some, g4, Option.bind_some, g5, Option.bind_some, g6, Option.bind_some, show xdr_NewWriter () = some () from rfl, Option.bind_some, hl, Option.bind_some]
  clear g1 g2 g3 g4 g5 g6 hl
  generalize wN [x1, 0, x2, x3, x4, x5] 6 = s at hlen her ⊢
  dsimp only
  have e1 := wU_len cf s
  have e2 := wO_len cb 400 (wU cf s)
  have r2 : Er (wO cb 400 (wU cf s)) := wO_er (wU_er her)
  rw [putAuth_ok hc hcb (by omega) hN, rputAuth_ok hc hcb (by omega) hN, Option.bind_some, Option.bind_some]
  generalize wO cb 400 (wU cf s) = t at e2 r2 ⊢
  have e3 := wU_len vf t
  have e4 := wO_len vb 400 (wU vf t)
  have r4 : Er (wO vb 400 (wU vf t)) := wO_er (wU_er r2)
  rw [putAuth_ok hv hvb (by omega) hN, rputAuth_ok hv hvb (by omega) hN, Option.bind_some, Option.bind_some]
  generalize wO vb 400 (wU vf t) = u at e4 r4 ⊢
  unfold xdr_Writer_Why xdr_Writer_Bytes
  dsimp only
  rw [Option.bind_some]
  dsimp only
  rcases r4 with r | r
  · rw [r, deS, Bool.not_true, cond_false, clone_ok (by omega), cond_false, Option.bind_some, Option.bind_some]
    dsimp only
    rw [fits1 (by omega), cond_true]
    exact ⟨_, rfl, rfl⟩
  · rw [r]
    exact ⟨_, rfl, rfl⟩

theorem rest_ok {a : Nat} {w p : Int} {D : List Int} (ha : a ≤ D.length) (hD : D.length < 1000000) : rpc_rest (D, (a : Int), w, p, D) = some ((a : Int), w, p, D, D.drop a) := by
  unfold rpc_rest xdr_Reader_Left xdr_Reader_At
  dsimp only
  rw [Option.bind_some]
  dsimp only
  rw [wrapF_i64 (by omega) (by omega)]
  by_cases h : D.length = a
  · rw [deT (by omega), cond_true, List.drop_of_length_le (by omega)]
  · have ht : List.take (D.length - a) (List.drop a D) = D.drop a := List.take_of_length_le (by simp)
    rw [deF (by omega), cond_false, Option.bind_some]
    dsimp only
    rw [deT (p := (0 : Int) ≤ (a : Int)) (by omega), deT (p := (a : Int) ≤ (D.length : Int)) (by omega), deT (p := (D.length : Int) ≤ (D.length : Int)) (by omega), Bool.and_self, Bool.and_self, cond_true, Int.toNat_natCast, ht, clone1_ok (by simp; omega), Option.bind_some]

theorem both_auth {N a : Nat} {w p : Int} {D : List Int} (hb : Bts D) (ha : a ≤ D.length) (hD : D.length < 1000000) (hN : 8 < N) :
    ∃ (v a' : Nat) (w' p' : Int) (l : List Int), a' ≤ D.length ∧ v < 4294967296 ∧ Bts l ∧ l.length ≤ D.length ∧ rpc_getAuth N ((a : Int), w, p, D) = some ((v : Int), (a' : Int), w', p', D, l) ∧ granaryref21_auth N ((a : Int), w, p, D) = some ((v : Int), (a' : Int), w', p', D, l) := by
  obtain ⟨v, a1, w1, p1, h1, hv, e1, e2⟩ := both_uint (w := w) (p := p) hb ha hD hN
  obtain ⟨a2, w2, p2, l, h2, hl, hll, e3, e4⟩ := both_opaque (M := 400) (w := w1) (p := p1) hb h1 hD hN (by decide) (by decide)
  refine ⟨v, a2, w2, p2, l, h2, hv, hl, hll, ?_, ?_⟩
  · unfold rpc_getAuth
    dsimp only
    rw [e1, Option.bind_some]
    dsimp only
    rw [e3, Option.bind_some]
  · unfold granaryref21_auth
    dsimp only
    rw [e2, Option.bind_some]
    dsimp only
    rw [e4, Option.bind_some]

theorem getCall_both {N : Nat} {D : List Int} (hb : Bts D) (hD : D.length < 1000000) (hN : 8 < N) : ∃ r, rpc_GetCall N D = some r ∧ granaryref21_GetCall N D = some r := by
  obtain ⟨v1, a1, w1, p1, k1, hv1, e1, f1⟩ := both_uint (a := 0) (w := 0) (p := 0) hb (Nat.zero_le _) hD hN
  obtain ⟨v2, a2, w2, p2, k2, hv2, e2, f2⟩ := both_uint (w := w1) (p := p1) hb k1 hD hN
  obtain ⟨v3, a3, w3, p3, k3, hv3, e3, f3⟩ := both_uint (w := w2) (p := p2) hb k2 hD hN
  obtain ⟨v4, a4, w4, p4, k4, hv4, e4, f4⟩ := both_uint (w := w3) (p := p3) hb k3 hD hN
  obtain ⟨v5, a5, w5, p5, k5, hv5, e5, f5⟩ := both_uint (w := w4) (p := p4) hb k4 hD hN
  obtain ⟨v6, a6, w6, p6, k6, hv6, e6, f6⟩ := both_uint (w := w5) (p := p5) hb k5 hD hN
  obtain ⟨v7, a7, w7, p7, l7, k7, hv7, b7, c7, e7, f7⟩ := both_auth (w := w6) (p := p6) hb k6 hD hN
  obtain ⟨v8, a8, w8, p8, l8, k8, hv8, b8, c8, e8, f8⟩ := both_auth (w := w7) (p := p7) hb k7 hD hN
  unfold rpc_GetCall granaryref21_GetCall granaryref01_NewReader xdr_NewReader
  rw [clone1_ok hD, Option.bind_some, fits1 hD, cond_true, Option.bind_some, Option.bind_some]
  rw [show (((0 : Nat)) : Int) = 0 from rfl] at e1 f1
  rw [e1, f1, Option.bind_some, Option.bind_some]
  dsimp only
  rw [e2, f2, Option.bind_some, Option.bind_some]
  dsimp only
  rw [e3, f3, Option.bind_some, Option.bind_some]
  dsimp only
  rw [e4, f4, Option.bind_some, Option.bind_some]
  dsimp only
  rw [e5, f5, Option.bind_some, Option.bind_some]
  dsimp only
  rw [e6, f6, Option.bind_some, Option.bind_some]
  dsimp only
  rw [e7, f7, Option.bind_some, Option.bind_some]
  dsimp only
  rw [e8, f8, Option.bind_some, Option.bind_some]
  dsimp only
  rw [show xdr_Reader_Why ((a8 : Int), w8, p8, D) = some (w8, p8, (a8 : Int), w8, p8, D) from rfl, Option.bind_some]
  dsimp only
  by_cases h : w8 = 0
  · rw [deT h, Bool.not_true, cond_false, Option.bind_some]
    by_cases h2 : (v2 : Int) = 0
    · rw [deT h2, Bool.not_true, cond_false, rest_ok k8 hD, Option.bind_some]
      dsimp only
      have ht : List.take (D.length - a8) (List.drop a8 D) = D.drop a8 := List.take_of_length_le (by simp)
      rw [Option.bind_some, cond_false, deT (p := (0 : Int) ≤ (a8 : Int)) (by omega), deT (p := (a8 : Int) ≤ (D.length : Int)) (by omega), deT (p := (D.length : Int) ≤ (D.length : Int)) (by omega), Bool.and_self, Bool.and_self, cond_true, Int.toNat_natCast, ht, fits1 (by simp; omega), cond_true]
      exact ⟨_, rfl, rfl⟩
    · rw [deF h2]
      exact ⟨_, rfl, rfl⟩
  · rw [deF h]
    exact ⟨_, rfl, rfl⟩

theorem same_call (x1 x2 x3 x4 x5 x6 : Int) (l7 : List Int) (x8 : Int) (l9 l10 : List Int) : granaryref21_SameCall (x1, x2, x3, x4, x5, x6, l7, x8, l9, l10, x1, x2, x3, x4, x5, x6, l7, x8, l9, l10) = some true := by
  have h : ∀ (f : Int) (b : List Int), granaryref21_SameAuth_v1 (f, b, f, b) = some true := fun f b => by
    unfold granaryref21_SameAuth_v1
    dsimp only
    rw [deS, cond_true, deS]; rfl
  unfold granaryref21_SameCall
  dsimp only
  rw [deS, cond_true, deS, cond_true, deS, cond_true, deS, cond_true, deS, cond_true, h, h, deS]
  rfl

end Go.Rf.W.Pure
