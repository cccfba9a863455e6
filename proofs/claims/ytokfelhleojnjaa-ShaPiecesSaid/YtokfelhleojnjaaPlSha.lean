/-
  Package sha: the rounds over a piece, as plain functions; the document's are the same.
-/
import Derived.Test.YtokfelhleojnjaaPlShaOct
set_option linter.unusedVariables false
set_option maxRecDepth 10000
namespace Go.Rf.W
open Go Go.Rf

theorem loop_iter {A R : Type} {b : (A → Option R) → A → Option R} (st : Nat → A) (n : Nat) {r : R} (hs : ∀ i, i < n → ∀ nx, b nx (st i) = nx (st (i + 1))) (he : ∀ nx, b nx (st n) = some r) : ∀ f, n < f → loopF b f (st 0) = some r := by
  have key : ∀ d i f, i + d = n → d < f → loopF b f (st i) = some r := by
    intro d
    induction d with
    | zero =>
      intro i f hi hf
      obtain ⟨f, rfl⟩ : ∃ g, f = g + 1 := ⟨f - 1, by omega⟩
      have : i = n := by omega
      subst this
      exact he _
    | succ d ih =>
      intro i f hi hf
      obtain ⟨f, rfl⟩ : ∃ g, f = g + 1 := ⟨f - 1, by omega⟩
      show b (loopF b f) (st i) = _
      rw [hs i (by omega)]
      exact ih (i + 1) f (by omega) (by omega)
  exact fun f hf => key n 0 f (by omega) hf

namespace Sha

def rot (x n m : Int) : Int := orF .u32 (shrF .u32 x n) (shlF .u32 x m)
def word (p : List Int) (i : Nat) : Int :=
  orF .u32 (orF .u32 (orF .u32 (shlF .u32 (wrapF .u32 (p.getD (4 * i) 0)) 24) (shlF .u32 (wrapF .u32 (p.getD (4 * i + 1) 0)) 16)) (shlF .u32 (wrapF .u32 (p.getD (4 * i + 2) 0)) 8)) (wrapF .u32 (p.getD (4 * i + 3) 0))
def wA (p : List Int) : Nat → List Int
  | 0 => List.replicate 64 0
  | i + 1 => (wA p i).set i (word p i)
def wNext (w : List Int) (i : Nat) : Int :=
  wrapF .u32 (wrapF .u32 (wrapF .u32 (w.getD i 0 + xorF .u32 (xorF .u32 (rot (w.getD (i + 1) 0) 7 25) (rot (w.getD (i + 1) 0) 18 14)) (shrF .u32 (w.getD (i + 1) 0) 3)) + w.getD (i + 9) 0) + xorF .u32 (xorF .u32 (rot (w.getD (i + 14) 0) 17 15) (rot (w.getD (i + 14) 0) 19 13)) (shrF .u32 (w.getD (i + 14) 0) 10))
def wB (w : List Int) : Nat → List Int
  | 0 => w
  | i + 1 => (wB w i).set (16 + i) (wNext (wB w i) i)
def sx (s : List Int) (kt wt : Int) : Int :=
  wrapF .u32 (wrapF .u32 (wrapF .u32 (wrapF .u32 (s.getD 7 0 + xorF .u32 (xorF .u32 (rot (s.getD 4 0) 6 26) (rot (s.getD 4 0) 11 21)) (rot (s.getD 4 0) 25 7)) + xorF .u32 (andF .u32 (s.getD 4 0) (s.getD 5 0)) (andF .u32 (xorF .u32 4294967295 (s.getD 4 0)) (s.getD 6 0))) + kt) + wt)
def sy (s : List Int) : Int :=
  wrapF .u32 (xorF .u32 (xorF .u32 (rot (s.getD 0 0) 2 30) (rot (s.getD 0 0) 13 19)) (rot (s.getD 0 0) 22 10) + xorF .u32 (xorF .u32 (andF .u32 (s.getD 0 0) (s.getD 1 0)) (andF .u32 (s.getD 0 0) (s.getD 2 0))) (andF .u32 (s.getD 1 0) (s.getD 2 0)))
def sStep (s : List Int) (kt wt : Int) : List Int :=
  [wrapF .u32 (sx s kt wt + sy s), s.getD 0 0, s.getD 1 0, s.getD 2 0, wrapF .u32 (s.getD 3 0 + sx s kt wt), s.getD 4 0, s.getD 5 0, s.getD 6 0]
def sI (k w s : List Int) : Nat → List Int
  | 0 => s
  | i + 1 => sStep (sI k w s i) (k.getD i 0) (w.getD i 0)
def add8 (s v : List Int) : List Int :=
  [wrapF .u32 (s.getD 0 0 + v.getD 0 0), wrapF .u32 (s.getD 1 0 + v.getD 1 0), wrapF .u32 (s.getD 2 0 + v.getD 2 0), wrapF .u32 (s.getD 3 0 + v.getD 3 0),
   wrapF .u32 (s.getD 4 0 + v.getD 4 0), wrapF .u32 (s.getD 5 0 + v.getD 5 0), wrapF .u32 (s.getD 6 0 + v.getD 6 0), wrapF .u32 (s.getD 7 0 + v.getD 7 0)]
noncomputable def K : List Int := (sha_constants ()).getD []
/-- The state behind a piece. -/
noncomputable def S (s p : List Int) : List Int := add8 s (sI K (wB (wA p 16) 48) s 64)

theorem wA_length (p : List Int) : ∀ i, (wA p i).length = 64
  | 0 => by simp [wA]
  | i + 1 => by simp [wA, wA_length p i]
theorem wB_length (w : List Int) : ∀ i, (wB w i).length = w.length
  | 0 => rfl
  | i + 1 => by simp [wB, wB_length w i]
theorem sI_length {k w s : List Int} (h : s.length = 8) : ∀ i, (sI k w s i).length = 8
  | 0 => h
  | i + 1 => rfl

theorem eight {s : List Int} (h : s.length = 8) : ∃ a b c d e f g i, s = [a, b, c, d, e, f, g, i] := by
  match s, h with
  | [a, b, c, d, e, f, g, i], _ => exact ⟨a, b, c, d, e, f, g, i, rfl⟩

theorem b0_eq (N : Nat) : granaryref05_Piece_b0 N = sha_Hash_round_b0 N := rfl
theorem b2_eq (N : Nat) : granaryref05_Piece_b2 N = sha_Hash_round_b2 N := rfl

theorem l0_ok {N : Nat} {p : List Int} (hp : 64 ≤ p.length) (hp2 : p.length < 1000000) (hN : 16 < N) : sha_Hash_round_l0 N (p, 0, List.replicate 64 0) = some (wA p 16) := by
  have he : ∀ nx, sha_Hash_round_b0 N nx (p, ((16 : Nat) : Int), wA p 16) = some (wA p 16) := by
    generalize wA p 16 = w; intro nx; rfl
  refine loop_iter (b := sha_Hash_round_b0 N) (r := wA p 16) (fun i => (p, (i : Int), wA p i)) 16 (fun i hi nx => ?_) he N hN
  have e0 : wrapF .i64 ((4 : Int) * (i : Int)) = ((4 * i : Nat) : Int) := by rw [wrapF_i64 (by omega) (by omega)]; omega
  have e1 : wrapF .i64 (((4 * i : Nat) : Int) + 1) = ((4 * i + 1 : Nat) : Int) := by rw [wrapF_i64 (by omega) (by omega)]; omega
  have e2 : wrapF .i64 (((4 * i : Nat) : Int) + 2) = ((4 * i + 2 : Nat) : Int) := by rw [wrapF_i64 (by omega) (by omega)]; omega
  have e3 : wrapF .i64 (((4 * i : Nat) : Int) + 3) = ((4 * i + 3 : Nat) : Int) := by rw [wrapF_i64 (by omega) (by omega)]; omega
  have e4 : wrapF .i64 ((i : Int) + 1) = ((i + 1 : Nat) : Int) := by rw [wrapF_i64 (by omega) (by omega)]; omega
  have c : ∀ j, j < 4 → (decide ((0 : Int) ≤ ((4 * i + j : Nat) : Int)) && decide (((4 * i + j : Nat) : Int) < ((p.length : Nat) : Int))) = true := fun j hj => by
    rw [deT (by omega), deT (by omega)]; rfl
  have c0 := c 0 (by omega); have c1 := c 1 (by omega); have c2 := c 2 (by omega); have c3 := c 3 (by omega)
  rw [Nat.add_zero] at c0
  unfold sha_Hash_round_b0
  dsimp only
  rw [deT (p := (i : Int) < 16) (by omega), cond_true, e0, c0, cond_true, e1, c1, cond_true, e2, c2, cond_true, e3, c3, cond_true, deT (p := (0 : Int) ≤ (i : Int)) (by omega), deT (p := (i : Int) < 64) (by omega), Bool.and_self, cond_true,
    deT (p := Int.toNat (i : Int) < (wA p i).length) (by rw [wA_length]; omega), cond_true, e4]
  simp only [Int.toNat_natCast, EK.dflt]
  rfl

theorem turned6 (v : Int) : sha_turned (v, 6) = some (rot v 6 26) := rfl
theorem turned11 (v : Int) : sha_turned (v, 11) = some (rot v 11 21) := rfl
theorem turned25 (v : Int) : sha_turned (v, 25) = some (rot v 25 7) := rfl
theorem turned2 (v : Int) : sha_turned (v, 2) = some (rot v 2 30) := rfl
theorem turned13 (v : Int) : sha_turned (v, 13) = some (rot v 13 19) := rfl
theorem turned22 (v : Int) : sha_turned (v, 22) = some (rot v 22 10) := rfl
theorem turned7 (v : Int) : sha_turned (v, 7) = some (rot v 7 25) := rfl
theorem turned18 (v : Int) : sha_turned (v, 18) = some (rot v 18 14) := rfl
theorem turned17 (v : Int) : sha_turned (v, 17) = some (rot v 17 15) := rfl
theorem turned19 (v : Int) : sha_turned (v, 19) = some (rot v 19 13) := rfl
theorem r6 (v : Int) : granaryref05_r (v, 6) = some (rot v 6 26) := rfl
theorem r11 (v : Int) : granaryref05_r (v, 11) = some (rot v 11 21) := rfl
theorem r25 (v : Int) : granaryref05_r (v, 25) = some (rot v 25 7) := rfl
theorem r2 (v : Int) : granaryref05_r (v, 2) = some (rot v 2 30) := rfl
theorem r13 (v : Int) : granaryref05_r (v, 13) = some (rot v 13 19) := rfl
theorem r22 (v : Int) : granaryref05_r (v, 22) = some (rot v 22 10) := rfl

theorem l2_ok {N : Nat} {w : List Int} (hw : w.length = 64) (hN : 48 < N) : sha_Hash_round_l2 N (16, w) = some (wB w 48) := by
  have he : ∀ nx, sha_Hash_round_b2 N nx (((16 + 48 : Nat) : Int), wB w 48) = some (wB w 48) := by
    generalize wB w 48 = w; intro nx; rfl
  refine loop_iter (b := sha_Hash_round_b2 N) (r := wB w 48) (fun i => (((16 + i : Nat) : Int), wB w i)) 48 (fun i hi nx => ?_) he N hN
  have e15 : wrapF .i64 (((16 + i : Nat) : Int) - 15) = ((i + 1 : Nat) : Int) := by rw [wrapF_i64 (by omega) (by omega)]; omega
  have e2 : wrapF .i64 (((16 + i : Nat) : Int) - 2) = ((i + 14 : Nat) : Int) := by rw [wrapF_i64 (by omega) (by omega)]; omega
  have e16 : wrapF .i64 (((16 + i : Nat) : Int) - 16) = ((i : Nat) : Int) := by rw [wrapF_i64 (by omega) (by omega)]; omega
  have e7 : wrapF .i64 (((16 + i : Nat) : Int) - 7) = ((i + 9 : Nat) : Int) := by rw [wrapF_i64 (by omega) (by omega)]; omega
  have e1 : wrapF .i64 (((16 + i : Nat) : Int) + 1) = ((16 + (i + 1) : Nat) : Int) := by rw [wrapF_i64 (by omega) (by omega)]; omega
  have c : ∀ j : Nat, j < 64 → (decide ((0 : Int) ≤ (j : Int)) && decide ((j : Int) < 64)) = true := fun j hj => by
    rw [deT (by omega), deT (by omega)]; rfl
  have hl : (wB w i).length = 64 := by rw [wB_length, hw]
  have d : ∀ j : Nat, j < 64 → decide (j < (wB w i).length) = true := fun j hj => deT (by omega)
  unfold sha_Hash_round_b2
  dsimp only
  rw [e15, e2, e16, e7, e1]
  simp only [Int.toNat_natCast]
  rw [deT (p := ((16 + i : Nat) : Int) < 64) (by omega), cond_true, c _ (by omega), cond_true, d _ (by omega), cond_true, c _ (by omega), cond_true, d _ (by omega), cond_true, c _ (by omega), cond_true, d _ (by omega), cond_true]
  rw [turned7, turned18, Option.bind_some, Option.bind_some, c _ (by omega), cond_true, d _ (by omega), cond_true, turned17, turned19, Option.bind_some, Option.bind_some, deT (p := (0 : Int) ≤ ((16 + i : Nat) : Int)) (by omega), Bool.and_self, cond_true, d _ (by omega), cond_true]
  rfl

theorem l4_ok {N : Nat} {k w s : List Int} (hw : w.length = 64) (hs : s.length = 8) (hN : 64 < N) : sha_Hash_round_l4 N (k, 0, w, s) = some (w, sI k w s 64) := by
  refine loop_iter (b := sha_Hash_round_b4 N) (fun i => (k, (i : Int), w, sI k w s i)) 64 (fun i hi nx => ?_) (fun nx => rfl) N hN
  have e1 : wrapF .i64 ((i : Int) + 1) = ((i + 1 : Nat) : Int) := by rw [wrapF_i64 (by omega) (by omega)]; omega
  obtain ⟨a, b, c, d, e, f, g, h, hq⟩ := eight (sI_length (k := k) (w := w) hs i)
  show sha_Hash_round_b4 N nx (k, (i : Int), w, sI k w s i) = nx (k, ((i + 1 : Nat) : Int), w, sStep (sI k w s i) (k.getD i 0) (w.getD i 0))
  rw [hq]
  unfold sha_Hash_round_b4
  dsimp only
  rw [deT (p := (i : Int) < 64) (by omega), cond_true, deT (p := (0 : Int) ≤ (i : Int)) (by omega), Bool.and_self, cond_true, e1]
  simp only [Int.toNat_natCast]
  rw [deT (p := i < w.length) (by omega)]
  rfl

theorem rl4_ok {N : Nat} {k w s : List Int} (hk : k.length = 64) (hw : w.length = 64) (hs : s.length = 8) (hN : 64 < N) : granaryref05_Piece_l4 N (0, k, w, s) = some (k, w, sI k w s 64) := by
  refine loop_iter (b := granaryref05_Piece_b4 N) (fun i => ((i : Int), k, w, sI k w s i)) 64 (fun i hi nx => ?_) (fun nx => rfl) N hN
  have e1 : wrapF .i64 ((i : Int) + 1) = ((i + 1 : Nat) : Int) := by rw [wrapF_i64 (by omega) (by omega)]; omega
  obtain ⟨a, b, c, d, e, f, g, h, hq⟩ := eight (sI_length (k := k) (w := w) hs i)
  show granaryref05_Piece_b4 N nx ((i : Int), k, w, sI k w s i) = nx (((i + 1 : Nat) : Int), k, w, sStep (sI k w s i) (k.getD i 0) (w.getD i 0))
  rw [hq]
  unfold granaryref05_Piece_b4
  dsimp only
  rw [deT (p := (i : Int) < 64) (by omega), cond_true, deT (p := (0 : Int) ≤ (i : Int)) (by omega), Bool.and_self, e1]
  simp only [Int.toNat_natCast]
  rw [deT (p := i < w.length) (by omega), deT (p := i < k.length) (by omega)]
  rfl

theorem l6_ok {N : Nat} {s v : List Int} (hs : s.length = 8) (hv : v.length = 8) (hN : 8 < N) : sha_Hash_round_l6 N (v, 0, s) = some (add8 s v) := by
  obtain ⟨f, rfl⟩ : ∃ g, N = g + 9 := ⟨N - 9, by omega⟩
  obtain ⟨a, b, c, d, e, f, g, h, rfl⟩ := eight hs
  obtain ⟨a1, b1, c1, d1, e1, f1, g1, h1, rfl⟩ := eight hv
  rfl

theorem rl6_ok {N : Nat} {s v : List Int} (hs : s.length = 8) (hv : v.length = 8) (hN : 8 < N) : granaryref05_Piece_l6 N (0, s, v) = some (s, add8 s v) := by
  obtain ⟨f, rfl⟩ : ∃ g, N = g + 9 := ⟨N - 9, by omega⟩
  obtain ⟨a, b, c, d, e, f, g, h, rfl⟩ := eight hs
  obtain ⟨a1, b1, c1, d1, e1, f1, g1, h1, rfl⟩ := eight hv
  have : add8 [a, b, c, d, e, f, g, h] [a1, b1, c1, d1, e1, f1, g1, h1] = add8 [a1, b1, c1, d1, e1, f1, g1, h1] [a, b, c, d, e, f, g, h] := by
    simp [add8, Int.add_comm]
  rw [this]
  rfl

theorem K_eq : sha_constants () = some K := rfl
theorem rK_eq : granaryref05_K () = some K := rfl
theorem K_length : K.length = 64 := by decide +kernel

theorem round_ok {N : Nat} {p s : List Int} {n : Int} (hp : 64 ≤ p.length) (hp2 : p.length < 1000000) (hs : s.length = 8) (hN : 64 < N) : sha_Hash_round N (p, s, n) = some (S s p, n) := by
  unfold sha_Hash_round
  dsimp only
  have h0 := l0_ok (N := N) hp hp2 (by omega)
  rw [show (EK.dflt (.int .u32)) = (0 : Int) from rfl, h0, Option.bind_some, l2_ok (wA_length p 16) (by omega), Option.bind_some, K_eq, Option.bind_some, l4_ok (by rw [wB_length, wA_length]) hs hN, Option.bind_some]
  dsimp only
  rw [l6_ok hs (sI_length hs 64) (by omega)]
  rfl

theorem piece_ok {N : Nat} {p s : List Int} (hp : 64 ≤ p.length) (hp2 : p.length < 1000000) (hs : s.length = 8) (hN : 64 < N) : granaryref05_Piece N (s, p) = some (S s p) := by
  unfold granaryref05_Piece granaryref05_Piece_l0 granaryref05_Piece_l2
  dsimp only
  rw [b0_eq, b2_eq]
  have h0 := l0_ok (N := N) hp hp2 (by omega)
  have h2 := l2_ok (N := N) (wA_length p 16) (by omega)
  unfold sha_Hash_round_l0 at h0
  unfold sha_Hash_round_l2 at h2
  rw [rK_eq, Option.bind_some, show (EK.dflt (.int .u32)) = (0 : Int) from rfl, h0, Option.bind_some, h2, Option.bind_some, rl4_ok K_length (by rw [wB_length, wA_length]) hs hN, Option.bind_some]
  dsimp only
  rw [rl6_ok hs (sI_length hs 64) (by omega)]
  rfl

theorem round_v1 (N : Nat) : sha_Hash_round_v1 N = sha_Hash_round N := rfl

theorem word_take {p : List Int} {i : Nat} (hi : i < 16) : word (p.take 64) i = word p i := by
  have t : ∀ j, j < 64 → (p.take 64).getD j 0 = p.getD j 0 := fun j hj => by
    simp only [List.getD, List.getElem?_take, if_pos hj]
  unfold word
  rw [t _ (by omega), t _ (by omega), t _ (by omega), t _ (by omega)]

theorem wA_take (p : List Int) : ∀ i, i ≤ 16 → wA (p.take 64) i = wA p i
  | 0, _ => rfl
  | i + 1, h => by simp only [wA]; rw [wA_take p i (by omega), word_take (by omega)]

theorem S_take (s p : List Int) : S s (p.take 64) = S s p := by unfold S; rw [wA_take p 16 (by omega)]

theorem S_length (s p : List Int) : (S s p).length = 8 := rfl
theorem wrap32 (n : Int) : 0 ≤ wrapF .u32 n ∧ wrapF .u32 n < 4294967296 := by simp only [wrapF]; omega
theorem S_bd (s p : List Int) : ∀ x ∈ S s p, 0 ≤ x ∧ x < 4294967296 := by
  intro x hx
  simp only [S, add8, List.mem_cons, List.not_mem_nil, or_false] at hx
  rcases hx with rfl | rfl | rfl | rfl | rfl | rfl | rfl | rfl <;> exact wrap32 _

end Sha
end Go.Rf.W
