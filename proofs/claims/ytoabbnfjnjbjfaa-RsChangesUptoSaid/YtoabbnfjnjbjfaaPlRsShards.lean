/-
  Package rs: shards out of bytes (out of the law of any).
-/
import Derived.Test.YtoabbnfjnjbjfaaPlRsCode2
set_option linter.unusedVariables false
set_option linter.unusedSimpArgs false
set_option maxRecDepth 10000
namespace Go.Rf.W.Pure
open Go Go.Rf Go.Rf.W Go.Rf.Lin

theorem cut_vec {n k j : Nat} {P : List Int} (hP : ∀ x, x ∈ P → 0 ≤ x ∧ x < 256) (hj : j * n + n ≤ P.length) : ∃ v, Vec n (List.take n (List.drop (j * n) P)) v := by
  have h1 : (List.take n (List.drop (j * n) P)).length = n := by simp; omega
  have h2 := Vec.of (L := List.take n (List.drop (j * n) P)) (fun x hx => hP x (List.mem_of_mem_drop (List.mem_of_mem_take hx)))
  rw [h1] at h2
  exact ⟨_, h2⟩

theorem shards_loop {N k n : Nat} {P : List Int} (hP : ∀ x, x ∈ P → 0 ≤ x ∧ x < 256) (hlen : P.length ≤ 9000) (hk2 : k ≤ 16) (hn : k * n ≤ P.length) :
    ∀ (d f j : Nat) (O : List (List Int)) (s : Nat → Nat → G), j + d = k → d < f → Mat j n O s → ∃ O' s', loopF (granarylaw03_shards_b0 N) f ((k : Int), P, (n : Int), (j : Int), O) = some O' ∧ Mat k n O' s' := by
  intro d
  induction d with
  | zero =>
    intro f j O s hj hf hO
    obtain ⟨f, rfl⟩ : ∃ g, f = g + 1 := ⟨f - 1, by omega⟩
    have : j = k := by omega
    subst this
    exact ⟨O, s, by simp [loopF, granarylaw03_shards_b0], hO⟩
  | succ d ih =>
    intro f j O s hj hf hO
    obtain ⟨f, rfl⟩ : ∃ g, f = g + 1 := ⟨f - 1, by omega⟩
    have hlt : j < k := by omega
    have hlO := hO.len
    have he : (j + 1) * n = j * n + n := by rw [Nat.add_mul, Nat.one_mul]
    have hle : j * n + n ≤ k * n := by rw [← he]; exact Nat.mul_le_mul_right n hlt
    obtain ⟨v, hv⟩ := cut_vec (n := n) (k := k) (j := j) hP (by omega)
    obtain ⟨O', s', e1, e2⟩ := ih f (j + 1) _ _ (by omega) (by omega) (hO.append hv)
    refine ⟨O', s', ?_, e2⟩
    rw [← e1]
    have q1 : wrapF .i64 ((j : Int) * (n : Int)) = ((j * n : Nat) : Int) := wrap_mul (by omega)
    have q2 : wrapF .i64 ((wrapF .i64 ((j : Int) + 1)) * (n : Int)) = ((j * n + n : Nat) : Int) := by
      rw [wrap_succ (show j ≤ 1000000 by omega), wrap_mul (a := j + 1) (b := n) (by omega), he]
    have z1 : (j : Int) < (k : Int) := by omega
    have z2 : (0 : Int) ≤ ((j * n : Nat) : Int) := by omega
    have z3 : ((j * n : Nat) : Int) ≤ ((j * n + n : Nat) : Int) := by omega
    have z4 : ((j * n + n : Nat) : Int) ≤ ((P.length : Nat) : Int) := by omega
    have hl : (List.take n (List.drop (j * n) P)).length = n := hv.len
    have f1 : fits 1 n = true := by simp [fits]; omega
    have g1 : ∀ q, q ≤ 20 → fits 24 (q + 1) = true := fun q hq => by simp [fits]; omega
    show granarylaw03_shards_b0 N (loopF (granarylaw03_shards_b0 N) f) _ = _
    generalize loopF (granarylaw03_shards_b0 N) f = nx
    unfold granarylaw03_shards_b0
    dsimp only
    rw [dT z1, cond_true, q1, q2, dT z2, dT z3, dT z4, Bool.and_self, Bool.and_self, cond_true, Int.toNat_natCast, Int.toNat_natCast, show j * n + n - j * n = n by omega, hl, f1, cond_true, List.length_cons, List.length_nil, Nat.zero_add, g1 O.length (by omega), cond_true, wrap_succ (show j ≤ 1000000 by omega)]

theorem shards_ok {N k : Nat} (hN : 100 ≤ N) (hk : 1 ≤ k) (hk2 : k ≤ 16) {P : List Int} (hP : ∀ x, x ∈ P → 0 ≤ x ∧ x < 256) (hlen : P.length ≤ 9000) :
    ∃ O s, granarylaw03_shards N ((k : Int), P) = some O ∧ Mat k (P.length / k) O s := by
  have e0 : ((0 : Nat) : Int) = 0 := rfl
  obtain ⟨O, s, a1, a2⟩ := shards_loop (N := N) (n := P.length / k) hP hlen hk2 (Nat.mul_div_le _ _) k N 0 [] (fun _ _ => 0) (by omega) (by omega) (Mat.nil _ _)
  rw [e0] at a1
  refine ⟨O, s, ?_, a2⟩
  have z1 : ¬ ((k : Int) = 0) := by omega
  have hd : P.length / k ≤ P.length := Nat.div_le_self _ _
  have w1 : wrapF .i64 (Int.tdiv ((P.length : Nat) : Int) (k : Int)) = ((P.length / k : Nat) : Int) := by
    rw [show Int.tdiv ((P.length : Nat) : Int) (k : Int) = ((P.length / k : Nat) : Int) from rfl]
    exact wrap_nat (by omega)
  unfold granarylaw03_shards
  dsimp only
  rw [dF z1, Bool.not_false, cond_true, w1, granarylaw03_shards_l0, a1, Option.bind_some]

end Go.Rf.W.Pure
