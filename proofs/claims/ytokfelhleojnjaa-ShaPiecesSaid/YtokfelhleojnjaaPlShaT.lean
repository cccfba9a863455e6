/-
  Package sha: trees of digests.
-/
import Derived.Test.YtokfelhleojnjaaPlShaL
set_option linter.unusedVariables false
set_option maxRecDepth 10000
namespace Go.Rf.W
open Go Go.Rf
namespace Sha

/-! Pieces have no part -/

theorem S_append {s p : List Int} (q : List Int) (h : 64 ≤ p.length) : S s (p ++ q) = S s p := by
  rw [← S_take s (p ++ q), List.take_append_of_le_length h, S_take]

theorem absorb_append : ∀ (j : Nat) (s p q : List Int), 64 * j ≤ p.length → absorb j s (p ++ q) = absorb j s p
  | 0, _, _, _, _ => rfl
  | j + 1, s, p, q, h => by
    unfold absorb
    rw [S_append q (by omega), List.drop_append_of_le_length (by omega), absorb_append j _ _ q (by simp; omega)]

theorem absorb_add : ∀ (j k : Nat) (s p : List Int), absorb (j + k) s p = absorb k (absorb j s p) (p.drop (64 * j))
  | 0, k, s, p => by rw [Nat.zero_add]; rfl
  | j + 1, k, s, p => by
    rw [show j + 1 + k = (j + k) + 1 by omega]
    show absorb (j + k) (S s p) (p.drop 64) = absorb k (absorb j (S s p) (p.drop 64)) (p.drop (64 * (j + 1)))
    rw [absorb_add j k, List.drop_drop, show 64 + 64 * j = 64 * (j + 1) by omega]

noncomputable def stA (p : List Int) : List Int := absorb (p.length / 64) init p
def stR (p : List Int) : List Int := p.drop (64 * (p.length / 64))

theorem stA_length (p : List Int) : (stA p).length = 8 := absorb_length _ _ _ init_length
theorem stA_bd (p : List Int) : Bd (stA p) := absorb_bd _ _ _ init_bd
theorem stR_length (p : List Int) : (stR p).length = p.length % 64 := by unfold stR; rw [List.length_drop]; omega

theorem st_append (p q : List Int) : absorb ((stR p ++ q).length / 64) (stA p) (stR p ++ q) = stA (p ++ q) ∧ (stR p ++ q).drop (64 * ((stR p ++ q).length / 64)) = stR (p ++ q) := by
  have h1 : 64 * (p.length / 64) ≤ p.length := by omega
  have h2 : stR p ++ q = (p ++ q).drop (64 * (p.length / 64)) := by unfold stR; rw [List.drop_append_of_le_length h1]
  have hl : (stR p ++ q).length = p.length % 64 + q.length := by rw [List.length_append, stR_length]
  have h3 : (p ++ q).length / 64 = p.length / 64 + (stR p ++ q).length / 64 := by rw [hl, List.length_append]; omega
  constructor
  · show _ = absorb ((p ++ q).length / 64) init (p ++ q)
    rw [h3, absorb_add, absorb_append _ _ _ _ h1, h2]
    rfl
  · show _ = (p ++ q).drop (64 * ((p ++ q).length / 64))
    rw [h3, h2, List.drop_drop, ← h2, Nat.mul_add]

theorem write_st {N : Nat} {p q : List Int} (h : p.length + q.length < 100000) (hN : 3000 < N) : sha_Hash_Write_v1 N (q, stA p, ((p.length : Nat) : Int), stR p) = some (stA (p ++ q), (((p ++ q).length : Nat) : Int), stR (p ++ q)) := by
  have hl := stR_length p
  rw [write1_ok (by omega) (stA_length p) (by omega) (by rw [List.length_append]; omega), (st_append p q).1, (st_append p q).2]
  have : wrapF .u64 (((p.length : Nat) : Int) + wrapF .u64 ((q.length : Nat) : Int)) = (((p ++ q).length : Nat) : Int) := by
    rw [wrapF_u64 (n := ((q.length : Nat) : Int)) (by omega) (by omega), wrapF_u64 (by omega) (by omega), List.length_append]; omega
  rw [this]

theorem write0_st {N : Nat} {p : List Int} (h : p.length < 100000) (hN : 3000 < N) : sha_Hash_Write N (p, init, 0) = some (stA p, ((p.length : Nat) : Int), stR p) := by
  rw [write0_ok (by omega) init_length (by omega) (by omega), len64 (by omega)]; rfl

theorem sum_st {N : Nat} {p : List Int} (hN : 3000 < N) : sha_Hash_Sum N (stA p, ((p.length : Nat) : Int), stR p) = some (digest p, stA p, ((p.length : Nat) : Int), stR p) :=
  sum_ok (stA_length p) (stA_bd p) (by rw [stR_length]; omega) hN

/-- The digest of two. -/
noncomputable def pr (a b : List Int) : List Int := digest (1 :: (a ++ b))
theorem pr_length (a b : List Int) : (pr a b).length = 32 := digest_length _

theorem take32 {a : List Int} (h : a.length = 32) : List.take 32 (List.drop 0 a) = a := by rw [List.drop_zero]; exact List.take_of_length_le (by omega)

theorem pair_ok {N : Nat} {a b : List Int} (ha : a.length = 32) (hb : b.length = 32) (hN : 3000 < N) : sha_pair N (a, b) = some (pr a b) := by
  unfold sha_pair
  have e1 : List.take 1 (List.drop 0 [(1 : Int)]) = [1] := rfl
  rw [init_eq, Option.bind_some]
  dsimp only
  rw [e1, write2_eq, write0_st (by decide) hN, deT (p := 1 ≤ [(1 : Int)].length) (by decide), take32 ha, take32 hb, deT (p := 32 ≤ a.length) (by omega), deT (p := 32 ≤ b.length) (by omega)]
  simp only [cond_true, Option.bind_some]
  rw [write_st (by simp; omega) hN, Option.bind_some]
  dsimp only
  rw [write_st (by simp; omega) hN, Option.bind_some]
  dsimp only
  rw [sum_st hN]
  simp [pr]

theorem node_ok {N : Nat} {a b : List Int} (ha : a.length = 32) (hb : b.length = 32) (hN : 3000 < N) : granaryref05_node N (a, b) = some (pr a b) := by
  unfold granaryref05_node
  have e1 : List.take 1 (List.drop 0 [(1 : Int)]) = [1] := rfl
  have e2 : granaryref05_Sum_v1 N = granaryref05_Sum N := rfl
  dsimp only
  rw [e1, e2, take32 ha, take32 hb, deT (p := 32 ≤ a.length) (by omega), deT (p := 32 ≤ b.length) (by omega), fits1 (by omega), fits1 (by simp; omega)]
  show (Option.bind (granaryref05_Sum N ([1] ++ a ++ b)) _) = _
  rw [rSum_ok (by simp; omega) hN]
  simp [pr]

/-! Halves -/

def hl : Nat → Nat → Nat → Nat
  | 0, _, k => k
  | d + 1, n, k => if 2 * k < n then hl d n (2 * k) else k
def halfN (n : Nat) : Nat := hl n n 1

theorem hl_bd : ∀ (d n k : Nat), k < n → k ≤ hl d n k ∧ hl d n k < n
  | 0, n, k, h => ⟨Nat.le_refl _, h⟩
  | d + 1, n, k, h => by
    unfold hl
    split
    · rename_i h2
      have := hl_bd d n (2 * k) h2
      omega
    · exact ⟨Nat.le_refl _, h⟩
theorem half_bd {n : Nat} (h : 2 ≤ n) : 1 ≤ halfN n ∧ halfN n < n := hl_bd n n 1 (by omega)

theorem half_loop {N n : Nat} (hn : n < 2000000) : ∀ (d k f : Nat), 1 ≤ k → k ≤ 2000000 → n ≤ d + k → d < f → loopF (sha_half_b0 N) f ((n : Int), (k : Int)) = some ((hl d n k : Nat) : Int) := by
  intro d
  induction d with
  | zero =>
    intro k f h1 hk h2 hf
    obtain ⟨f, rfl⟩ : ∃ g, f = g + 1 := ⟨f - 1, by omega⟩
    show sha_half_b0 N _ _ = _
    unfold sha_half_b0
    dsimp only
    rw [wrapF_i64 (by omega) (by omega), deF (by omega)]; rfl
  | succ d ih =>
    intro k f h1 hk h2 hf
    obtain ⟨f, rfl⟩ : ∃ g, f = g + 1 := ⟨f - 1, by omega⟩
    show sha_half_b0 N (loopF (sha_half_b0 N) f) _ = _
    have ih := ih (2 * k) f (by omega)
    unfold sha_half_b0
    dsimp only
    unfold hl
    rw [wrapF_i64 (n := 2 * (k : Int)) (by omega) (by omega)]
    by_cases h : 2 * k < n
    · rw [deT (by omega), if_pos h, cond_true, wrapF_i64 (by omega) (by omega), show (k : Int) * 2 = ((2 * k : Nat) : Int) by omega]
      exact ih (by omega) (by omega) (by omega)
    · rw [deF (by omega), if_neg h]; rfl

theorem rhalf_loop {N n : Nat} (hn : n < 2000000) : ∀ (d k f : Nat), 1 ≤ k → k ≤ 2000000 → n ≤ d + k → d < f → loopF (granaryref05_half_b0 N) f ((n : Int), (k : Int)) = some ((hl d n k : Nat) : Int) := by
  intro d
  induction d with
  | zero =>
    intro k f h1 hk h2 hf
    obtain ⟨f, rfl⟩ : ∃ g, f = g + 1 := ⟨f - 1, by omega⟩
    show granaryref05_half_b0 N _ _ = _
    unfold granaryref05_half_b0
    dsimp only
    rw [wrapF_i64 (by omega) (by omega), deF (by omega)]; rfl
  | succ d ih =>
    intro k f h1 hk h2 hf
    obtain ⟨f, rfl⟩ : ∃ g, f = g + 1 := ⟨f - 1, by omega⟩
    show granaryref05_half_b0 N (loopF (granaryref05_half_b0 N) f) _ = _
    have ih := ih (2 * k) f (by omega)
    unfold granaryref05_half_b0
    dsimp only
    unfold hl
    rw [wrapF_i64 (n := 2 * (k : Int)) (by omega) (by omega)]
    by_cases h : 2 * k < n
    · rw [deT (by omega), if_pos h, cond_true, show 2 * (k : Int) = ((2 * k : Nat) : Int) by omega]
      exact ih (by omega) (by omega) (by omega)
    · rw [deF (by omega), if_neg h]; rfl

theorem half_ok {N n : Nat} (hn : n < 2000000) (hN : n < N) : sha_half N (n : Int) = some ((halfN n : Nat) : Int) := by
  unfold sha_half sha_half_l0
  have := half_loop (N := N) hn n 1 N (by omega) (by omega) (by omega) hN
  rw [show ((1 : Nat) : Int) = 1 from rfl] at this
  rw [this]; rfl
theorem rhalf_ok {N n : Nat} (hn : n < 2000000) (hN : n < N) : granaryref05_half N (n : Int) = some ((halfN n : Nat) : Int) := by
  unfold granaryref05_half granaryref05_half_l0
  have := rhalf_loop (N := N) hn n 1 N (by omega) (by omega) (by omega) hN
  rw [show ((1 : Nat) : Int) = 1 from rfl] at this
  rw [this]; rfl

/-! Roots -/

def Dg (l : List (List Int)) : Prop := ∀ d ∈ l, d.length = 32

noncomputable def rt : Nat → List (List Int) → List Int
  | 0, _ => []
  | f + 1, l => if l.length = 0 then digest [] else if l.length = 1 then l.getD 0 z32 else pr (rt f (l.take (halfN l.length))) (rt f (l.drop (halfN l.length)))

theorem Dg.take {l : List (List Int)} (h : Dg l) (k : Nat) : Dg (l.take k) := fun d hd => h d (List.mem_of_mem_take hd)
theorem Dg.drop {l : List (List Int)} (h : Dg l) (k : Nat) : Dg (l.drop k) := fun d hd => h d (List.mem_of_mem_drop hd)
theorem Dg.get {l : List (List Int)} (h : Dg l) {i : Nat} (hi : i < l.length) : (l.getD i z32).length = 32 := by
  rw [List.getD, List.getElem?_eq_getElem hi]; exact h _ (List.getElem_mem _)

theorem rt_length : ∀ (f : Nat) (l : List (List Int)), Dg l → l.length < f → (rt f l).length = 32
  | 0, _, _, h => by omega
  | f + 1, l, hd, h => by
    unfold rt
    split
    · exact digest_length _
    · split
      · exact hd.get (by omega)
      · exact pr_length _ _

theorem rt_stable : ∀ (f g : Nat) (l : List (List Int)), l.length < f → l.length < g → rt f l = rt g l
  | 0, _, _, h, _ => by omega
  | _, 0, _, _, h => by omega
  | f + 1, g + 1, l, h1, h2 => by
    unfold rt
    by_cases e0 : l.length = 0
    · rw [if_pos e0, if_pos e0]
    · rw [if_neg e0, if_neg e0]
      by_cases e1 : l.length = 1
      · rw [if_pos e1, if_pos e1]
      · have hb := half_bd (n := l.length) (by omega)
        rw [if_neg e1, if_neg e1, rt_stable f g _ (by rw [List.length_take]; omega) (by rw [List.length_take]; omega), rt_stable f g _ (by rw [List.length_drop]; omega) (by rw [List.length_drop]; omega)]

theorem takedrop {α : Type} (l : List α) (h : Nat) : List.take (l.length - h) (List.drop h l) = l.drop h := List.take_of_length_le (by simp)

theorem root_step {N : Nat} (hN : 3000 < N) {rec : List (List Int) → Option (List Int)} {f : Nat} {l : List (List Int)} (hl : l.length ≤ 60) (hd : Dg l) (hlt : l.length < f + 1) (hrec : ∀ m : List (List Int), m.length < f → m.length < l.length → Dg m → rec m = some (rt f m)) :
    sha_Root_v1_b N rec l = some (rt (f + 1) l) := by
  have e2 : sha_Sum_v1 N = sha_Sum N := rfl
  unfold sha_Root_v1_b rt
  dsimp only
  by_cases h0 : l.length = 0
  · rw [deT (by omega), cond_true, if_pos h0, e2, Sum_ok (by decide) hN]; rfl
  rw [deF (by omega), cond_false, if_neg h0]
  by_cases h1 : l.length = 1
  · rw [deT (by omega), cond_true, if_pos h1, deT (by omega), cond_true]; rfl
  have hb := half_bd (n := l.length) (by omega)
  have t1 := hrec (l.take (halfN l.length)) (by rw [List.length_take]; omega) (by rw [List.length_take]; omega) (hd.take _)
  have t2 := hrec (l.drop (halfN l.length)) (by rw [List.length_drop]; omega) (by rw [List.length_drop]; omega) (hd.drop _)
  rw [deF (by omega), cond_false, if_neg h1, half_ok (by omega) (by omega), Option.bind_some, deT (p := (0 : Int) ≤ ((halfN l.length : Nat) : Int)) (by omega), deT (p := ((halfN l.length : Nat) : Int) ≤ ((l.length : Nat) : Int)) (by omega), deT (p := ((l.length : Nat) : Int) ≤ ((l.length : Nat) : Int)) (by omega)]
  simp only [Bool.and_self, cond_true, Int.toNat_natCast, List.drop_zero]
  rw [t1, Option.bind_some, takedrop, t2, Option.bind_some, pair_ok (rt_length _ _ (hd.take _) (by rw [List.length_take]; omega)) (rt_length _ _ (hd.drop _) (by rw [List.length_drop]; omega)) hN]
  rfl

theorem root1_ok {N : Nat} (hN : 3000 < N) : ∀ (f : Nat) (l : List (List Int)), l.length ≤ 60 → Dg l → l.length < f → loopF (sha_Root_v1_b N) f l = some (rt f l)
  | 0, _, _, _, h => by omega
  | f + 1, l, hl, hd, h => root_step hN hl hd h fun m h1 h2 h3 => root1_ok hN f m (by omega) h3 h1

theorem Root1_ok {N : Nat} (hN : 3000 < N) {l : List (List Int)} (hl : l.length ≤ 60) (hd : Dg l) : sha_Root_v1 N l = some (rt N l) := root1_ok hN N l hl hd (by omega)
theorem Root_ok {N : Nat} (hN : 3000 < N) {l : List (List Int)} (hl : l.length ≤ 60) (hd : Dg l) : sha_Root N l = some (rt N l) := by
  have h : sha_Root N l = sha_Root_v1_b N (sha_Root_v1 N) l := rfl
  rw [h, root_step hN (f := N) hl hd (by omega) (fun m h1 h2 h3 => Root1_ok hN (by omega) h3), rt_stable (N + 1) N l (by omega) (by omega)]

theorem rroot_ok {N : Nat} (hN : 3000 < N) : ∀ (f : Nat) (l : List (List Int)), l.length ≤ 60 → Dg l → l.length < f → loopF (granaryref05_Root_b N) f l = some (rt f l)
  | 0, _, _, _, h => by omega
  | f + 1, l, hl, hd, h => by
    have hrec : ∀ m : List (List Int), m.length < f → m.length < l.length → Dg m → loopF (granaryref05_Root_b N) f m = some (rt f m) := fun m h1 h2 h3 => rroot_ok hN f m (by omega) h3 h1
    show granaryref05_Root_b N (loopF (granaryref05_Root_b N) f) l = _
    generalize loopF (granaryref05_Root_b N) f = rec at hrec
    unfold granaryref05_Root_b rt
    try dsimp only
    by_cases h0 : l.length = 0
    · rw [deT (by omega), cond_true, if_pos h0, rSum_ok (by decide) hN]; rfl
    rw [deF (by omega), cond_false, if_neg h0]
    by_cases h1 : l.length = 1
    · rw [deT (by omega), cond_true, if_pos h1, deT (by omega), cond_true]; rfl
    have hb := half_bd (n := l.length) (by omega)
    have t1 := hrec (l.take (halfN l.length)) (by rw [List.length_take]; omega) (by rw [List.length_take]; omega) (hd.take _)
    have t2 := hrec (l.drop (halfN l.length)) (by rw [List.length_drop]; omega) (by rw [List.length_drop]; omega) (hd.drop _)
    rw [deF (by omega), cond_false, if_neg h1, rhalf_ok (by omega) (by omega), Option.bind_some, deT (p := (0 : Int) ≤ ((halfN l.length : Nat) : Int)) (by omega), deT (p := ((halfN l.length : Nat) : Int) ≤ ((l.length : Nat) : Int)) (by omega), deT (p := ((l.length : Nat) : Int) ≤ ((l.length : Nat) : Int)) (by omega)]
    simp only [Bool.and_self, cond_true, Int.toNat_natCast, List.drop_zero]
    rw [t1, Option.bind_some, takedrop, t2, Option.bind_some, node_ok (rt_length _ _ (hd.take _) (by rw [List.length_take]; omega)) (rt_length _ _ (hd.drop _) (by rw [List.length_drop]; omega)) hN]
    rfl

theorem rRoot_ok {N : Nat} (hN : 3000 < N) {l : List (List Int)} (hl : l.length ≤ 60) (hd : Dg l) : granaryref05_Root N l = some (rt N l) := rroot_ok hN N l hl hd (by omega)

/-! Paths -/

noncomputable def pth (R : List (List Int) → List Int) : Nat → List (List Int) → Int → Int × List (List Int)
  | 0, _, _ => (0, [])
  | f + 1, l, i => if i < 0 ∨ (l.length : Int) ≤ i then (2, []) else if l.length = 1 then (0, []) else
    if i < ((halfN l.length : Nat) : Int) then (0, (pth R f (l.take (halfN l.length)) i).2 ++ [R (l.drop (halfN l.length))])
    else (0, (pth R f (l.drop (halfN l.length)) (i - ((halfN l.length : Nat) : Int))).2 ++ [R (l.take (halfN l.length))])

theorem pth_len {R : List (List Int) → List Int} : ∀ (f : Nat) (l : List (List Int)) (i : Int), l.length < f → (pth R f l i).2.length ≤ l.length
  | 0, _, _, h => by omega
  | f + 1, l, i, h => by
    unfold pth
    split
    · simp
    · rename_i h2
      split
      · simp
      · have hb := half_bd (n := l.length) (by omega)
        split
        · have := pth_len f (l.take (halfN l.length)) i (R := R) (by rw [List.length_take]; omega)
          rw [List.length_take] at this
          simp; omega
        · have := pth_len f (l.drop (halfN l.length)) (i - ((halfN l.length : Nat) : Int)) (R := R) (by rw [List.length_drop]; omega)
          rw [List.length_drop] at this
          simp; omega

theorem pth_stable {R : List (List Int) → List Int} : ∀ (f g : Nat) (l : List (List Int)) (i : Int), l.length < f → l.length < g → pth R f l i = pth R g l i
  | 0, _, _, _, h, _ => by omega
  | _, 0, _, _, _, h => by omega
  | f + 1, g + 1, l, i, h1, h2 => by
    unfold pth
    by_cases c : i < 0 ∨ (l.length : Int) ≤ i
    · rw [if_pos c, if_pos c]
    rw [if_neg c, if_neg c]
    by_cases c1 : l.length = 1
    · rw [if_pos c1, if_pos c1]
    have hb := half_bd (n := l.length) (by omega)
    rw [if_neg c1, if_neg c1, pth_stable f g _ _ (by rw [List.length_take]; omega) (by rw [List.length_take]; omega), pth_stable f g _ _ (by rw [List.length_drop]; omega) (by rw [List.length_drop]; omega)]

theorem fits32 {n : Nat} (h : n < 1000000) : fits 32 n = true := by simp [fits]; omega

theorem path_step {N : Nat} (hN : 3000 < N) {rec : List (List Int) × Int → Option (Int × List (List Int))} {f : Nat} {l : List (List Int)} {i : Int} (hl : l.length ≤ 60) (hd : Dg l) (hlt : l.length < f + 1)
    (hrec : ∀ (m : List (List Int)) (j : Int), m.length < f → m.length < l.length → Dg m → rec (m, j) = some (pth (rt N) f m j)) :
    sha_Path_v1_b N rec (l, i) = some (pth (rt N) (f + 1) l i) := by
  unfold sha_Path_v1_b pth
  dsimp only
  by_cases c0 : i < 0
  · rw [deT c0, cond_true, Option.bind_some, cond_true, if_pos (.inl c0)]
  rw [deF c0, cond_false, Option.bind_some]
  by_cases c1 : ((l.length : Nat) : Int) ≤ i
  · rw [deT c1, cond_true, if_pos (.inr c1)]
  rw [deF c1, cond_false, if_neg (by omega)]
  by_cases h1 : l.length = 1
  · rw [deT (by omega), cond_true, if_pos h1]
  have hb := half_bd (n := l.length) (by omega)
  have hlt1 : (l.take (halfN l.length)).length < l.length := by rw [List.length_take]; omega
  have hlt2 : (l.drop (halfN l.length)).length < l.length := by rw [List.length_drop]; omega
  rw [deF (by omega), cond_false, if_neg h1, half_ok (by omega) (by omega), Option.bind_some, deT (p := (0 : Int) ≤ ((halfN l.length : Nat) : Int)) (by omega), deT (p := ((halfN l.length : Nat) : Int) ≤ ((l.length : Nat) : Int)) (by omega), deT (p := ((l.length : Nat) : Int) ≤ ((l.length : Nat) : Int)) (by omega)]
  simp only [Bool.and_self, cond_true, Int.toNat_natCast, List.drop_zero]
  rw [takedrop]
  have e1 : ∀ d : List Int, List.take 1 [d] = [d] := fun _ => rfl
  by_cases c2 : i < ((halfN l.length : Nat) : Int)
  · rw [deF (by omega), cond_false, Option.bind_some, if_pos c2]
    dsimp only
    have hp := pth_len (R := rt N) f (l.take (halfN l.length)) i (by omega)
    rw [hrec _ _ (by omega) hlt1 (hd.take _), Option.bind_some, Root1_ok hN (by omega) (hd.drop _), Option.bind_some]
    try dsimp only
    rw [e1, fits32 (by simp; omega)]
    rfl
  · rw [deT (by omega), cond_true, Option.bind_some, if_neg c2, wrapF_i64 (by omega) (by omega)]
    dsimp only
    have hp := pth_len (R := rt N) f (l.drop (halfN l.length)) (i - ((halfN l.length : Nat) : Int)) (by omega)
    rw [hrec _ _ (by omega) hlt2 (hd.drop _), Option.bind_some, Root1_ok hN (by omega) (hd.take _), Option.bind_some]
    try dsimp only
    rw [e1, fits32 (by simp; omega)]
    rfl

theorem path1_ok {N : Nat} (hN : 3000 < N) : ∀ (f : Nat) (l : List (List Int)) (i : Int), l.length ≤ 60 → Dg l → l.length < f → loopF (sha_Path_v1_b N) f (l, i) = some (pth (rt N) f l i)
  | 0, _, _, _, _, h => by omega
  | f + 1, l, i, hl, hd, h => path_step hN hl hd h fun m j h1 h2 h3 => path1_ok hN f m j (by omega) h3 h1

theorem Path_ok {N : Nat} (hN : 3000 < N) {l : List (List Int)} {i : Int} (hl : l.length ≤ 60) (hd : Dg l) : sha_Path N (l, i) = some (pth (rt N) N l i) := by
  have h : sha_Path N (l, i) = sha_Path_v1_b N (sha_Path_v1 N) (l, i) := rfl
  rw [h, path_step hN (rec := sha_Path_v1 N) (f := N) hl hd (by omega) (fun m j h1 h2 h3 => path1_ok hN N m j (by omega) h3 (by omega)), pth_stable (N + 1) N l i (by omega) (by omega)]

theorem rpath_ok {N : Nat} (hN : 3000 < N) : ∀ (f : Nat) (l : List (List Int)) (i : Int), l.length ≤ 60 → Dg l → l.length < f → loopF (granaryref05_Path_b N) f (l, i) = some (pth (rt N) f l i)
  | 0, _, _, _, _, h => by omega
  | f + 1, l, i, hl, hd, h => by
    have hrec : ∀ (m : List (List Int)) (j : Int), m.length < f → m.length < l.length → Dg m → loopF (granaryref05_Path_b N) f (m, j) = some (pth (rt N) f m j) := fun m j h1 h2 h3 => rpath_ok hN f m j (by omega) h3 h1
    show granaryref05_Path_b N (loopF (granaryref05_Path_b N) f) (l, i) = _
    generalize loopF (granaryref05_Path_b N) f = rec at hrec
    unfold granaryref05_Path_b pth
    dsimp only
    by_cases c0 : i < 0
    · rw [deT c0, cond_true, Option.bind_some, cond_true, if_pos (.inl c0)]
    rw [deF c0, cond_false, Option.bind_some]
    by_cases c1 : ((l.length : Nat) : Int) ≤ i
    · rw [deT c1, cond_true, if_pos (.inr c1)]
    rw [deF c1, cond_false, if_neg (by omega)]
    by_cases h1 : l.length = 1
    · rw [deT (by omega), cond_true, if_pos h1]
    have hb := half_bd (n := l.length) (by omega)
    have hlt1 : (l.take (halfN l.length)).length < l.length := by rw [List.length_take]; omega
    have hlt2 : (l.drop (halfN l.length)).length < l.length := by rw [List.length_drop]; omega
    rw [deF (by omega), cond_false, if_neg h1, rhalf_ok (by omega) (by omega), Option.bind_some, deT (p := (0 : Int) ≤ ((halfN l.length : Nat) : Int)) (by omega), deT (p := ((halfN l.length : Nat) : Int) ≤ ((l.length : Nat) : Int)) (by omega), deT (p := ((l.length : Nat) : Int) ≤ ((l.length : Nat) : Int)) (by omega)]
    simp only [Bool.and_self, cond_true, Int.toNat_natCast, List.drop_zero]
    rw [takedrop]
    have e1 : ∀ d : List Int, List.take 1 [d] = [d] := fun _ => rfl
    by_cases c2 : i < ((halfN l.length : Nat) : Int)
    · rw [deT c2, cond_true, if_pos c2]
      have hp := pth_len (R := rt N) f (l.take (halfN l.length)) i (by omega)
      rw [hrec _ _ (by omega) hlt1 (hd.take _), Option.bind_some, rRoot_ok hN (by omega) (hd.drop _), Option.bind_some]
      try dsimp only
      rw [e1, fits32 (by simp; omega)]
      rfl
    · rw [deF c2, cond_false, if_neg c2, wrapF_i64 (by omega) (by omega)]
      have hp := pth_len (R := rt N) f (l.drop (halfN l.length)) (i - ((halfN l.length : Nat) : Int)) (by omega)
      rw [hrec _ _ (by omega) hlt2 (hd.drop _), Option.bind_some, rRoot_ok hN (by omega) (hd.take _), Option.bind_some]
      try dsimp only
      rw [e1, fits32 (by simp; omega)]
      rfl

theorem rPath_ok {N : Nat} (hN : 3000 < N) {l : List (List Int)} {i : Int} (hl : l.length ≤ 60) (hd : Dg l) : granaryref05_Path N (l, i) = some (pth (rt N) N l i) := rpath_ok hN N l i hl hd (by omega)

/-! Climbing -/

def sd : Nat → Nat → Nat → List Bool
  | 0, _, _ => []
  | f + 1, i, n => if n = 1 then [] else if i < halfN n then sd f i (halfN n) ++ [false] else sd f (i - halfN n) (n - halfN n) ++ [true]

theorem fitsB {n : Nat} (h : n < 3000000) : fits 1 n = true := by simp [fits]; omega

theorem sd_len : ∀ (f i n : Nat), 1 ≤ n → n < f → (sd f i n).length < n
  | 0, _, _, _, h => by omega
  | f + 1, i, n, h1, h => by
    unfold sd
    split
    · simp; omega
    · have hb := half_bd (n := n) (by omega)
      split
      · have := sd_len f i (halfN n) hb.1 (by omega)
        simp; omega
      · have := sd_len f (i - halfN n) (n - halfN n) (by omega) (by omega)
        simp; omega

theorem sides_ok {N : Nat} (hN : 2000000 < N) : ∀ (f i n : Nat), 1 ≤ n → n ≤ 1048576 → i < n → n < f → loopF (sha_sides_b N) f ((i : Int), (n : Int)) = some (sd f i n)
  | 0, _, _, _, _, _, h => by omega
  | f + 1, i, n, h1, h2, hi, h => by
    have ih := sides_ok hN f
    show sha_sides_b N (loopF (sha_sides_b N) f) _ = _
    generalize loopF (sha_sides_b N) f = rec at ih
    unfold sha_sides_b sd
    dsimp only
    by_cases e : n = 1
    · rw [deT (by omega), if_pos e]; rfl
    have hb := half_bd (n := n) (by omega)
    have e1 : ∀ b : Bool, List.take 1 (List.drop 0 [b]) = [b] := fun _ => rfl
    rw [deF (by omega), if_neg e, cond_false, half_ok (by omega) (by omega), Option.bind_some]
    by_cases c : i < halfN n
    · have hl := sd_len f i (halfN n) hb.1 (by omega)
      rw [deT (by omega), if_pos c, cond_true, ih i (halfN n) hb.1 (by omega) c (by omega), Option.bind_some]
      try dsimp only
      rw [e1, fitsB (by simp; omega)]
      rfl
    · have hl := sd_len f (i - halfN n) (n - halfN n) (by omega) (by omega)
      rw [deF (by omega), if_neg c, cond_false, wrapF_i64 (by omega) (by omega), wrapF_i64 (by omega) (by omega), show (i : Int) - ((halfN n : Nat) : Int) = ((i - halfN n : Nat) : Int) by omega, show (n : Int) - ((halfN n : Nat) : Int) = ((n - halfN n : Nat) : Int) by omega,
        ih (i - halfN n) (n - halfN n) (by omega) (by omega) (by omega) (by omega), Option.bind_some]
      try dsimp only
      rw [e1, fitsB (by simp; omega)]
      rfl

theorem steps_ok {N : Nat} (hN : 2000000 < N) : ∀ (f i n : Nat), 1 ≤ n → n ≤ 1048576 → i < n → n < f → loopF (granaryref05_steps_b N) f ((i : Int), (n : Int)) = some (((sd f i n).length : Nat) : Int)
  | 0, _, _, _, _, _, h => by omega
  | f + 1, i, n, h1, h2, hi, h => by
    have ih := steps_ok hN f
    show granaryref05_steps_b N (loopF (granaryref05_steps_b N) f) _ = _
    generalize loopF (granaryref05_steps_b N) f = rec at ih
    unfold granaryref05_steps_b sd
    dsimp only
    by_cases e : n = 1
    · rw [deT (by omega), if_pos e]; rfl
    have hb := half_bd (n := n) (by omega)
    rw [deF (by omega), if_neg e, cond_false, rhalf_ok (by omega) (by omega), Option.bind_some]
    by_cases c : i < halfN n
    · have hl := sd_len f i (halfN n) hb.1 (by omega)
      rw [deT (by omega), if_pos c, cond_true, ih i (halfN n) hb.1 (by omega) c (by omega), Option.bind_some, wrapF_i64 (by omega) (by omega), List.length_append]
      simp; omega
    · have hl := sd_len f (i - halfN n) (n - halfN n) (by omega) (by omega)
      rw [deF (by omega), if_neg c, cond_false, wrapF_i64 (n := (i : Int) - ((halfN n : Nat) : Int)) (by omega) (by omega), wrapF_i64 (n := (n : Int) - ((halfN n : Nat) : Int)) (by omega) (by omega), show (i : Int) - ((halfN n : Nat) : Int) = ((i - halfN n : Nat) : Int) by omega, show (n : Int) - ((halfN n : Nat) : Int) = ((n - halfN n : Nat) : Int) by omega,
        ih (i - halfN n) (n - halfN n) (by omega) (by omega) (by omega) (by omega), Option.bind_some, wrapF_i64 (by omega) (by omega), List.length_append]
      simp; omega

/-- One step up. -/
noncomputable def up (b : Bool) (q d : List Int) : List Int := cond b (pr q d) (pr d q)
noncomputable def fd : List Bool → List (List Int) → List Int → List Int
  | b :: w, q :: p, d => fd w p (up b q d)
  | _, _, d => d

theorem fd_append : ∀ (w : List Bool) (p : List (List Int)) (b : Bool) (q d : List Int), w.length = p.length → fd (w ++ [b]) (p ++ [q]) d = up b q (fd w p d)
  | [], [], _, _, _, _ => rfl
  | _ :: w, _ :: p, b, q, d, h => fd_append w p b q _ (by simpa using h)
  | [], _ :: _, _, _, _, h => by simp at h
  | _ :: _, [], _, _, _, h => by simp at h

theorem up_length (b : Bool) (q d : List Int) : (up b q d).length = 32 := by cases b <;> exact pr_length _ _

theorem fd_take_next {w : List Bool} {p : List (List Int)} (h : w.length = p.length) (d : List Int) {i : Nat} (hi : i < w.length) : fd (w.take (i + 1)) (p.take (i + 1)) d = up (w.getD i false) (p.getD i z32) (fd (w.take i) (p.take i) d) := by
  have e1 : w.take (i + 1) = w.take i ++ [w.getD i false] := by rw [List.take_add_one, List.getD, List.getElem?_eq_getElem hi]; rfl
  have e2 : p.take (i + 1) = p.take i ++ [p.getD i z32] := by rw [List.take_add_one, List.getD, List.getElem?_eq_getElem (by omega)]; rfl
  rw [e1, e2, fd_append _ _ _ _ _ (by rw [List.length_take, List.length_take]; omega)]

theorem fd_length (d : List Int) (hd : d.length = 32) : ∀ (w : List Bool) (p : List (List Int)) (e : List Int), e.length = 32 → (fd w p e).length = 32
  | [], _, _, h => by simpa [fd] using h
  | _ :: _, [], _, h => by simpa [fd] using h
  | b :: w, q :: p, e, h => fd_length d hd w p _ (up_length _ _ _)

theorem climb_loop {N : Nat} (hN : 3000 < N) {p : List (List Int)} {w : List Bool} {d : List Int} (hp : p.length ≤ 60) (hw : w.length = p.length) (hd : d.length = 32) (hg : Dg p) : sha_Climb_l0 N (p, ((w.length : Nat) : Int), 0, d, w) = some (fd w p d, w) := by
  refine loop_iter (b := sha_Climb_b0 N) (r := (fd w p d, w)) (fun i => (p, ((w.length : Nat) : Int), (i : Int), fd (w.take i) (p.take i) d, w)) w.length (fun i hi nx => ?_) (fun nx => ?_) N (by omega)
  · have hf := fd_length d hd (w.take i) (p.take i) d hd
    have hq := hg.get (i := i) (by omega)
    unfold sha_Climb_b0
    dsimp only
    rw [deT (p := (i : Int) < ((w.length : Nat) : Int)) (by omega), cond_true, deT (p := (0 : Int) ≤ (i : Int)) (by omega), Bool.and_self, cond_true, Int.toNat_natCast, deT hi, cond_true, deT (p := (i : Int) < ((p.length : Nat) : Int)) (by omega), Bool.and_self, cond_true, cond_true]
    rw [show (EK.dflt (.arr 32 (.int .u8))) = z32 from rfl, show (EK.dflt .bool) = false from rfl, pair_ok hq hf hN, pair_ok hf hq hN, wrapF_i64 (by omega) (by omega), fd_take_next hw d hi]
    simp only [Option.bind_some]
    rw [cond_some, Option.bind_some]
    rfl
  · unfold sha_Climb_b0
    dsimp only
    rw [deF (by omega), cond_false, List.take_of_length_le (Nat.le_refl _), List.take_of_length_le (by omega)]

theorem rclimb_ok {N : Nat} (hN : 2000000 < N) {d : List Int} (hd : d.length = 32) : ∀ (f i n : Nat) (p : List (List Int)), 1 ≤ n → n ≤ 1048576 → i < n → n < f → p.length ≤ 60 → Dg p → (sd f i n).length = p.length →
    loopF (granaryref05_climb_b N) f (d, (i : Int), (n : Int), p) = some (fd (sd f i n) p d)
  | 0, _, _, _, _, _, _, h, _, _, _ => by omega
  | f + 1, i, n, p, h1, h2, hi, h, hp, hg, hl => by
    have ih := rclimb_ok hN hd f
    show granaryref05_climb_b N (loopF (granaryref05_climb_b N) f) _ = _
    generalize loopF (granaryref05_climb_b N) f = rec at ih
    unfold sd at hl ⊢
    unfold granaryref05_climb_b
    dsimp only
    by_cases e : n = 1
    · rw [deT (by omega), if_pos e, cond_true]
      cases p <;> rfl
    have hb := half_bd (n := n) (by omega)
    rw [if_neg e] at hl ⊢
    rw [deF (by omega), cond_false, rhalf_ok (by omega) (by omega), Option.bind_some]
    have hpos : 0 < p.length := by
      rw [← hl]
      split <;> simp
    obtain ⟨p', q, rfl⟩ : ∃ p' q, p = p' ++ [q] := ⟨p.dropLast, p.getLast (fun h => by rw [h] at hpos; simp at hpos), (List.dropLast_concat_getLast _).symm⟩
    have hq : q.length = 32 := hg q (by simp)
    have hg' : Dg p' := fun x hx => hg x (by simp [hx])
    have hlen : (p' ++ [q]).length = p'.length + 1 := by simp
    rw [hlen] at hl hp ⊢
    have e5 : wrapF .i64 (((p'.length + 1 : Nat) : Int) - 1) = ((p'.length : Nat) : Int) := by rw [wrapF_i64 (by omega) (by omega)]; omega
    have e6 : List.take p'.length (List.drop 0 (p' ++ [q])) = p' := by rw [List.drop_zero, List.take_left]
    have e7 : List.getD (p' ++ [q]) p'.length (EK.dflt (.arr 32 (.int .u8))) = q := by rw [List.getD, List.getElem?_append_right (Nat.le_refl _), Nat.sub_self]; rfl
    rw [e5, deT (p := (0 : Int) ≤ ((p'.length : Nat) : Int)) (by omega), deT (p := ((p'.length : Nat) : Int) ≤ ((p'.length + 1 : Nat) : Int)) (by omega), deT (p := ((p'.length : Nat) : Int) < ((p'.length + 1 : Nat) : Int)) (by omega)]
    simp only [Bool.and_self, cond_true, Int.toNat_natCast]
    rw [e6, e7]
    by_cases c : i < halfN n
    · rw [if_pos c] at hl ⊢
      have hl' : (sd f i (halfN n)).length = p'.length := by simp at hl; omega
      rw [deT (by omega), cond_true, ih i (halfN n) p' hb.1 (by omega) c (by omega) (by omega) hg' hl', Option.bind_some, node_ok (fd_length d hd _ _ _ hd) hq (by omega), fd_append _ _ _ _ _ hl']
      rfl
    · rw [if_neg c] at hl ⊢
      have hl' : (sd f (i - halfN n) (n - halfN n)).length = p'.length := by simp at hl; omega
      rw [deF (by omega), cond_false, wrapF_i64 (n := (i : Int) - ((halfN n : Nat) : Int)) (by omega) (by omega), wrapF_i64 (n := (n : Int) - ((halfN n : Nat) : Int)) (by omega) (by omega), show (i : Int) - ((halfN n : Nat) : Int) = ((i - halfN n : Nat) : Int) by omega, show (n : Int) - ((halfN n : Nat) : Int) = ((n - halfN n : Nat) : Int) by omega,
        ih (i - halfN n) (n - halfN n) p' (by omega) (by omega) (by omega) (by omega) (by omega) hg' hl', Option.bind_some, node_ok hq (fd_length d hd _ _ _ hd) (by omega), fd_append _ _ _ _ _ hl']
      rfl

/-- Where a path leads. -/
noncomputable def climbS (N : Nat) (d : List Int) (i n : Int) (p : List (List Int)) : List Int × Int :=
  if i < 0 ∨ n ≤ i ∨ 1048576 < n then (z32, 2) else if (sd N i.toNat n.toNat).length = p.length then (fd (sd N i.toNat n.toNat) p d, 0) else (z32, 2)

theorem Climb_ok {N : Nat} (hN : 2000000 < N) {d : List Int} {i n : Int} {p : List (List Int)} (hd : d.length = 32) (hp : p.length ≤ 60) (hg : Dg p) : sha_Climb N (d, i, n, p) = some (climbS N d i n p) := by
  unfold sha_Climb climbS
  dsimp only
  by_cases c0 : i < 0
  · rw [deT c0, cond_true, Option.bind_some, cond_true, if_pos (.inl c0)]; rfl
  rw [deF c0, cond_false]
  by_cases c1 : n ≤ i
  · rw [deT c1, cond_true, Option.bind_some, cond_true, if_pos (.inr (.inl c1))]; rfl
  rw [deF c1, cond_false, Option.bind_some]
  by_cases c2 : 1048576 < n
  · rw [deT c2, cond_true, if_pos (.inr (.inr c2))]; rfl
  rw [deF c2, cond_false, if_neg (by omega)]
  have h := sides_ok hN N i.toNat n.toNat (by omega) (by omega) (by omega) (by omega)
  rw [Int.toNat_of_nonneg (by omega), Int.toNat_of_nonneg (by omega)] at h
  unfold sha_sides
  rw [h, Option.bind_some]
  by_cases c3 : (sd N i.toNat n.toNat).length = p.length
  · rw [deT (by omega), if_pos c3, Bool.not_true, cond_false, climb_loop (by omega) hp c3 hd hg]; rfl
  · rw [deF (by omega), if_neg c3, Bool.not_false, cond_true]; rfl

theorem rClimb_ok {N : Nat} (hN : 2000000 < N) {d : List Int} {i n : Int} {p : List (List Int)} (hd : d.length = 32) (hp : p.length ≤ 60) (hg : Dg p) : granaryref05_Climb N (d, i, n, p) = some (climbS N d i n p) := by
  unfold granaryref05_Climb climbS
  dsimp only
  by_cases c2 : 1048576 < n
  · rw [deT c2, cond_true, Option.bind_some, cond_true, if_pos (.inr (.inr c2))]; rfl
  rw [deF c2, cond_false]
  by_cases c0 : i < 0
  · rw [deT c0, cond_true, Option.bind_some, cond_true, if_pos (.inl c0)]; rfl
  rw [deF c0, cond_false]
  by_cases c1 : n ≤ i
  · rw [deT c1, cond_true, Option.bind_some, cond_true, if_pos (.inr (.inl c1))]; rfl
  rw [deF c1, cond_false, if_neg (by omega)]
  have h := steps_ok hN N i.toNat n.toNat (by omega) (by omega) (by omega) (by omega)
  have h' := fun hl => rclimb_ok hN hd N i.toNat n.toNat p (by omega) (by omega) (by omega) (by omega) hp hg hl
  rw [Int.toNat_of_nonneg (by omega), Int.toNat_of_nonneg (by omega)] at h h'
  unfold granaryref05_steps granaryref05_climb
  rw [h, Option.bind_some, Option.bind_some]
  by_cases c3 : (sd N i.toNat n.toNat).length = p.length
  · rw [deT (by omega), if_pos c3, Bool.not_true, cond_false, h' c3]; rfl
  · rw [deF (by omega), if_neg c3, Bool.not_false, cond_true]; rfl

theorem same_loop {N : Nat} (l : List (List Int)) (hl : l.length < 1000000) : ∀ (d i f : Nat), i + d = l.length → d < f → loopF (granaryref05_Same_b0 N) f (l, l, (i : Int)) = some (.inr ()) := by
  intro d
  induction d with
  | zero =>
    intro i f hi hf
    obtain ⟨f, rfl⟩ : ∃ g, f = g + 1 := ⟨f - 1, by omega⟩
    show granaryref05_Same_b0 N _ _ = _
    unfold granaryref05_Same_b0
    dsimp only
    rw [deF (by omega), cond_false]
  | succ d ih =>
    intro i f hi hf
    obtain ⟨f, rfl⟩ : ∃ g, f = g + 1 := ⟨f - 1, by omega⟩
    show granaryref05_Same_b0 N (loopF (granaryref05_Same_b0 N) f) _ = _
    have ih := ih (i + 1) f (by omega) (by omega)
    generalize loopF (granaryref05_Same_b0 N) f = nx at ih
    unfold granaryref05_Same_b0
    dsimp only
    rw [deT (p := (i : Int) < ((l.length : Nat) : Int)) (by omega), cond_true, deT (p := (0 : Int) ≤ (i : Int)) (by omega), Bool.and_self, cond_true, cond_true, deS, Bool.not_true, cond_false, wrapF_i64 (by omega) (by omega)]
    exact ih

theorem Same_ok {N : Nat} {l : List (List Int)} (hl : l.length < 1000000) (hN : l.length < N) : granaryref05_Same N (l, l) = some true := by
  unfold granaryref05_Same granaryref05_Same_l0
  have := same_loop (N := N) l hl l.length 0 N (by omega) hN
  rw [show ((0 : Nat) : Int) = 0 from rfl] at this
  dsimp only
  rw [deS, Bool.not_true, cond_false, this]
  rfl
theorem same1_eq (N : Nat) : granaryref05_Same_v1 N = granaryref05_Same N := rfl

end Sha
end Go.Rf.W
