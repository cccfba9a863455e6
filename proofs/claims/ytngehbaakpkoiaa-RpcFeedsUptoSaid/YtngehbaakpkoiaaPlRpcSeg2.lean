/-
  Package rpc: a framer fed with a chunk; chunk after chunk.
-/
import Derived.Test.YtngehbaakpkoiaaPlRpcSeg
set_option linter.unusedVariables false
set_option linter.unusedSimpArgs false
set_option maxRecDepth 10000
namespace Go.Rf.W.Pure
open Go Go.Rf Go.Rf.W

def FS.on (s : FS) (r : List (List Int)) : FS := ⟨s.n, s.last, s.frags, s.held, s.closed, s.head, s.part, r ++ s.recs⟩

theorem settle_on (s : FS) (r : List (List Int)) : (s.on r).settle = s.settle.on r := by
  unfold FS.settle FS.on
  dsimp only
  split
  · simp
  · rfl

theorem step_on (s : FS) (r : List (List Int)) (b : Int) : (s.on r).step b = (s.step b).on r := by
  unfold FS.step
  by_cases h1 : s.closed = true
  · rw [if_pos h1, if_pos (show (s.on r).closed = true from h1)]
  rw [if_neg h1, if_neg (show ¬ (s.on r).closed = true from h1)]
  by_cases h2 : 0 < s.n
  · rw [if_pos h2, if_pos (show 0 < (s.on r).n from h2)]
    exact settle_on ⟨s.n - 1, s.last, s.frags, s.held + 1, false, s.head, s.part ++ [b], s.recs⟩ r
  rw [if_neg h2, if_neg (show ¬ 0 < (s.on r).n from h2)]
  by_cases h3 : (s.head ++ [b]).length < 4
  · rw [if_pos h3, if_pos (show ((s.on r).head ++ [b]).length < 4 from h3)]; rfl
  rw [if_neg h3, if_neg (show ¬ ((s.on r).head ++ [b]).length < 4 from h3)]
  unfold FS.begins
  by_cases h4 : s.part.length + val (s.head ++ [b]) % 2147483648 ≤ 4096 ∧ s.frags + 1 ≤ 32
  · rw [if_pos h4, if_pos (show (s.on r).part.length + val ((s.on r).head ++ [b]) % 2147483648 ≤ 4096 ∧ (s.on r).frags + 1 ≤ 32 from h4)]
    exact settle_on ⟨val (s.head ++ [b]) % 2147483648, decide (2147483648 ≤ val (s.head ++ [b])), s.frags + 1, s.held + 1, false, [], s.part, s.recs⟩ r
  · rw [if_neg h4, if_neg (show ¬ ((s.on r).part.length + val ((s.on r).head ++ [b]) % 2147483648 ≤ 4096 ∧ (s.on r).frags + 1 ≤ 32) from h4)]; rfl

theorem run_on (r : List (List Int)) : ∀ (c : List Int) (s : FS), (s.on r).run c = (s.run c).on r
  | [], s => rfl
  | b :: c, s => by
    show ((s.on r).step b).run c = ((s.step b).run c).on r
    rw [step_on, run_on r c]

theorem settle_props (s : FS) (h1 : s.head.length ≤ 3) (h2 : s.frags ≤ 32) (h3 : s.part.length + s.n ≤ 4096) (h4 : Bts s.head) : s.settle.ok ∧ s.settle.recs.length ≤ s.recs.length + 1 ∧ s.settle.held ≤ s.held ∧ s.settle.closed = (if s.n = 0 ∧ s.last = true then false else s.closed) := by
  unfold FS.settle FS.ok
  split
  · exact ⟨⟨Nat.zero_le _, Nat.zero_le _, Nat.zero_le _, fun x hx => by cases hx⟩, by simp, Nat.zero_le _, rfl⟩
  · exact ⟨⟨h1, h2, h3, h4⟩, by omega, Nat.le_refl _, rfl⟩

theorem step_props (s : FS) (b : Int) (hb : 0 ≤ b ∧ b < 256) (h : s.ok) : (s.step b).ok ∧ (s.step b).recs.length ≤ s.recs.length + 1 ∧ (s.step b).held ≤ s.held + 1 ∧
    (s.closed = false → (s.step b).closed = true → s.step b = ⟨0, false, 0, 0, true, [], [], (s.step b).recs⟩) := by
  obtain ⟨h1, h2, h3, h4⟩ := h
  unfold FS.step
  by_cases c1 : s.closed = true
  · rw [if_pos c1]
    exact ⟨⟨h1, h2, h3, h4⟩, by omega, by omega, fun h => by rw [c1] at h; cases h⟩
  rw [if_neg c1]
  by_cases c2 : 0 < s.n
  · rw [if_pos c2]
    have hs := settle_props ⟨s.n - 1, s.last, s.frags, s.held + 1, false, s.head, s.part ++ [b], s.recs⟩ h1 h2 (by dsimp only; rw [List.length_append, List.length_singleton]; omega) h4
    refine ⟨hs.1, hs.2.1, hs.2.2.1, fun _ hc => ?_⟩
    rw [hs.2.2.2] at hc
    dsimp only at hc
    split at hc <;> cases hc
  rw [if_neg c2]
  by_cases c3 : (s.head ++ [b]).length < 4
  · rw [if_pos c3]
    refine ⟨⟨?_, h2, h3, ?_⟩, by dsimp only; omega, Nat.le_refl _, fun _ hc => by cases hc⟩
    · dsimp only; omega
    · intro x hx
      rcases List.mem_append.1 hx with hx | hx
      · exact h4 x hx
      · rw [List.mem_singleton.1 hx]; exact hb
  rw [if_neg c3]
  unfold FS.begins
  by_cases c4 : s.part.length + val (s.head ++ [b]) % 2147483648 ≤ 4096 ∧ s.frags + 1 ≤ 32
  · rw [if_pos c4]
    have hs := settle_props ⟨val (s.head ++ [b]) % 2147483648, decide (2147483648 ≤ val (s.head ++ [b])), s.frags + 1, s.held + 1, false, [], s.part, s.recs⟩ (Nat.zero_le _) c4.2 c4.1 (fun x hx => by cases hx)
    refine ⟨hs.1, hs.2.1, hs.2.2.1, fun _ hc => ?_⟩
    rw [hs.2.2.2] at hc
    dsimp only at hc
    split at hc <;> cases hc
  · rw [if_neg c4]
    exact ⟨⟨Nat.zero_le _, Nat.zero_le _, Nat.zero_le _, fun x hx => by cases hx⟩, by dsimp only; omega, Nat.zero_le _, fun _ _ => rfl⟩

theorem run_props : ∀ (c : List Int) (s : FS), Bts c → s.ok → (s.run c).ok ∧ (s.run c).recs.length ≤ s.recs.length + c.length ∧ (s.run c).held ≤ s.held + c.length ∧
    (s.closed = false → (s.run c).closed = true → s.run c = ⟨0, false, 0, 0, true, [], [], (s.run c).recs⟩)
  | [], s, _, h => ⟨h, Nat.le_refl _, Nat.le_refl _, fun h1 h2 => by rw [show s.run [] = s from rfl, h1] at h2; cases h2⟩
  | b :: c, s, hb, h => by
    have h1 := step_props s b (hb b (List.mem_cons_self ..)) h
    have h2 := run_props c (s.step b) (fun x hx => hb x (List.mem_cons_of_mem _ hx)) h1.1
    have e : s.run (b :: c) = (s.step b).run c := rfl
    rw [e, List.length_cons]
    refine ⟨h2.1, by omega, by omega, fun hc hd => ?_⟩
    by_cases hs : (s.step b).closed = true
    · rw [run_closed c _ hs]
      exact h1.2.2.2 hc hs
    · exact h2.2.2.2 (by simpa using hs) hd

def FS.res (t : FS) : Int × Int × Bool × Int × Int × Bool × (List (List Int)) × (List Int) × (List Int) :=
  (if t.closed = true then 210 else 0, (t.n : Int), t.last, (t.frags : Int), (t.held : Int), t.closed, t.recs, t.head, t.part)

theorem feed_ok {N : Nat} {c : List Int} {s : FS} (hN : 8 < N) (hf : c.length < N) (hok : s.ok) (hb : Bts c) (hr : s.recs = []) (hh : s.held + c.length < 500000) (hl : c.length < 100000) :
    rpc_Framer_Feed_v1 N (c, (s.n : Int), s.last, (s.frags : Int), (s.held : Int), s.closed, s.head, s.part) = some (s.run c).res := by
  unfold rpc_Framer_Feed_v1
  dsimp only
  by_cases hc : s.closed = true
  · rw [run_closed c s hc, hc, cond_true]
    unfold FS.res
    rw [if_pos hc, hc, hr]
  · have hc' : s.closed = false := by simpa using hc
    have h := feed_loop hN N c s hf hc' hok hok.1 hb hh (by rw [hr]; simpa using hl)
    have hp := (run_props c s hb hok).2.2.2 hc'
    rw [hr] at h
    rw [hc', cond_false, show rpc_Framer_Feed_v1_l1 N = loopF (rpc_Framer_Feed_v1_b1 N) N from rfl, h, Option.bind_some]
    unfold FS.out FS.res
    by_cases hd : (s.run c).closed = true
    · have e := hp hd
      rw [if_pos hd, if_pos hd]
      generalize (s.run c) = t at hd e ⊢
      dsimp only
      obtain ⟨n, last, frags, held, closed, head, part, recs⟩ := t
      injection e with e1 e2 e3 e4 e5 e6 e7 e8
      subst e1 e2 e3 e4 e5 e6 e7
      rfl
    · rw [if_neg hd, if_neg hd]
      have hd' : (s.run c).closed = false := by simpa using hd
      rw [hd']

def FS.new : FS := ⟨0, false, 0, 0, false, [], [], []⟩
theorem new_ok : FS.new.ok := ⟨Nat.zero_le _, Nat.zero_le _, Nat.zero_le _, fun x hx => by cases hx⟩

theorem feed0_ok {N : Nat} {c : List Int} (hN : 8 < N) (hf : c.length < N) (hb : Bts c) (hl : c.length < 100000) :
    rpc_Framer_Feed N (c, (0 : Int), false, (0 : Int), (0 : Int), false) = some (FS.new.run c).res := by
  unfold rpc_Framer_Feed
  dsimp only
  have h := feed0_loop hN N c FS.new hf rfl new_ok rfl hb (by show 0 + c.length < 500000; omega) (by show 0 + c.length < 100000; omega)
  have hp := (run_props c FS.new hb new_ok).2.2.2 rfl
  have h' : rpc_Framer_Feed_l1 N (c, decide ((0 : Int) < 0), (0 : Int), false, (0 : Int), (0 : Int), false, [], []) = some (FS.new.run c).out := h
  rw [cond_false, h', Option.bind_some]
  unfold FS.out FS.res
  by_cases hd : (FS.new.run c).closed = true
  · have e := hp hd
    rw [if_pos hd, if_pos hd]
    generalize (FS.new.run c) = t at hd e ⊢
    dsimp only
    obtain ⟨n, last, frags, held, closed, head, part, recs⟩ := t
    injection e with e1 e2 e3 e4 e5 e6 e7 e8
    subst e1 e2 e3 e4 e5 e6 e7
    rfl
  · rw [if_neg hd, if_neg hd]
    have hd' : (FS.new.run c).closed = false := by simpa using hd
    rw [hd']

end Go.Rf.W.Pure
