/-
  Package rpc: a stream of records, byte after byte.
-/
import Derived.Test.YtngehbaakpkoiaaPlRpcEnc
set_option linter.unusedVariables false
set_option linter.unusedSimpArgs false
set_option maxRecDepth 10000
namespace Go.Rf.W.Pure
open Go Go.Rf Go.Rf.W

structure FS where
  n : Nat
  last : Bool
  frags : Nat
  held : Nat
  closed : Bool
  head : List Int
  part : List Int
  recs : List (List Int)

def FS.settle (s : FS) : FS := if s.n = 0 ∧ s.last = true then ⟨0, false, 0, 0, false, [], [], s.recs ++ [s.part]⟩ else s

def FS.begins (s : FS) (h : List Int) (m : Nat) : FS :=
  if s.part.length + val h % 2147483648 ≤ 4096 ∧ s.frags + 1 ≤ 32 then FS.settle ⟨val h % 2147483648, decide (2147483648 ≤ val h), s.frags + 1, s.held + m, false, [], s.part, s.recs⟩
  else ⟨0, false, 0, 0, true, [], [], s.recs⟩

/-- One byte more. -/
def FS.step (s : FS) (b : Int) : FS :=
  if s.closed = true then s
  else if 0 < s.n then FS.settle ⟨s.n - 1, s.last, s.frags, s.held + 1, false, s.head, s.part ++ [b], s.recs⟩
  else if (s.head ++ [b]).length < 4 then ⟨s.n, s.last, s.frags, s.held + 1, false, s.head ++ [b], s.part, s.recs⟩
  else s.begins (s.head ++ [b]) 1

def FS.run (s : FS) (c : List Int) : FS := c.foldl FS.step s

theorem run_append (s : FS) (c d : List Int) : s.run (c ++ d) = (s.run c).run d := List.foldl_append

theorem run_body : ∀ (c : List Int) (s : FS), s.closed = false → c.length ≤ s.n → c ≠ [] →
    s.run c = FS.settle ⟨s.n - c.length, s.last, s.frags, s.held + c.length, false, s.head, s.part ++ c, s.recs⟩
  | [], s, _, _, h => absurd rfl h
  | [b], s, hc, hn, _ => by
    show s.step b = _
    unfold FS.step
    simp only [List.length_cons, List.length_nil] at hn
    rw [if_neg (by rw [hc]; decide), if_pos (by omega)]
    rfl
  | b :: b' :: c, s, hc, hn, _ => by
    show (s.step b).run (b' :: c) = _
    simp only [List.length_cons] at hn
    have e : s.step b = ⟨s.n - 1, s.last, s.frags, s.held + 1, false, s.head, s.part ++ [b], s.recs⟩ := by
      unfold FS.step
      rw [if_neg (by rw [hc]; decide), if_pos (by omega)]
      unfold FS.settle
      rw [if_neg (fun h => by have := h.1; dsimp only at this; omega)]
    rw [e, run_body (b' :: c) _ rfl (by simp only [List.length_cons]; omega) (by simp)]
    simp only [List.length_cons, List.append_assoc, List.singleton_append]
    rw [show s.n - 1 - (c.length + 1) = s.n - (c.length + 1 + 1) by omega, show s.held + 1 + (c.length + 1) = s.held + (c.length + 1 + 1) by omega]

theorem run_rest (c : List Int) (s : FS) (hc : s.closed = false) :
    s.settle.run c = (FS.settle ⟨s.n - min c.length s.n, s.last, s.frags, s.held + min c.length s.n, false, s.head, s.part ++ c.take (min c.length s.n), s.recs⟩).run (c.drop (min c.length s.n)) := by
  by_cases h : min c.length s.n = 0
  · rw [h, List.take_zero, List.drop_zero, List.append_nil, Nat.sub_zero, Nat.add_zero]
    obtain ⟨n, last, frags, held, closed, head, part, recs⟩ := s
    dsimp only at hc
    subst hc
    rfl
  · have hs : s.settle = s := by unfold FS.settle; rw [if_neg (fun h2 => by have := h2.1; omega)]
    have ht : c = c.take (min c.length s.n) ++ c.drop (min c.length s.n) := (List.take_append_drop _ _).symm
    have hl : (c.take (min c.length s.n)).length = min c.length s.n := by rw [List.length_take]; omega
    rw [hs]
    conv => lhs; rw [ht]
    rw [run_append, run_body _ s hc (by rw [hl]; omega) (fun e => by rw [e] at hl; simp at hl; omega), hl]

theorem run_head : ∀ (c : List Int) (s : FS), s.closed = false → s.n = 0 → s.head.length + c.length < 4 →
    s.run c = ⟨0, s.last, s.frags, s.held + c.length, false, s.head ++ c, s.part, s.recs⟩
  | [], s, hc, hn, h => by
    obtain ⟨n, last, frags, held, closed, head, part, recs⟩ := s
    dsimp only at hc hn
    subst hc hn
    show FS.mk _ _ _ _ _ _ _ _ = _
    rw [List.append_nil]
    rfl
  | b :: c, s, hc, hn, h => by
    show (s.step b).run c = _
    rw [List.length_cons] at h
    have e : s.step b = ⟨s.n, s.last, s.frags, s.held + 1, false, s.head ++ [b], s.part, s.recs⟩ := by
      unfold FS.step
      rw [if_neg (by rw [hc]; decide), if_neg (by omega), if_pos (by simp; omega)]
    rw [e]
    rw [run_head c ⟨s.n, s.last, s.frags, s.held + 1, false, s.head ++ [b], s.part, s.recs⟩ rfl hn (by simp; omega)]
    simp only [List.length_cons, List.append_assoc, List.singleton_append]
    rw [show s.held + 1 + c.length = s.held + (c.length + 1) by omega]

theorem run_head4 (c : List Int) (s : FS) (hc : s.closed = false) (hn : s.n = 0) (h3 : s.head.length ≤ 3) (h : s.head.length + c.length = 4) : s.run c = s.begins (s.head ++ c) c.length := by
  have hne : c ≠ [] := fun e => by subst e; simp at h; omega
  have ec := (List.dropLast_concat_getLast hne).symm
  generalize c.dropLast = c' at ec
  generalize c.getLast hne = b at ec
  subst ec
  simp only [List.length_append, List.length_cons, List.length_nil] at h
  rw [run_append, run_head c' s hc hn (by omega)]
  have h1 : ∀ t : FS, t.run [b] = t.step b := fun _ => rfl
  rw [h1]
  unfold FS.step
  rw [if_neg (by simp), if_neg (by simp), if_neg (by simp; omega)]
  unfold FS.begins
  dsimp only
  rw [List.append_assoc, List.length_append, Nat.add_assoc]
  rfl

theorem run_closed : ∀ (c : List Int) (s : FS), s.closed = true → s.run c = s
  | [], s, _ => rfl
  | b :: c, s, h => by
    show (s.step b).run c = s
    have e : s.step b = s := by unfold FS.step; rw [if_pos h]
    rw [e, run_closed c s h]

def FS.ok (s : FS) : Prop := s.head.length ≤ 3 ∧ s.frags ≤ 32 ∧ s.part.length + s.n ≤ 4096 ∧ Bts s.head

theorem top31 {v : Nat} (h : v < 4294967296) : andNotF .u32 (v : Int) 2147483648 = ((v % 2147483648 : Nat) : Int) := by
  have e : andNotF .u32 (v : Int) ((2147483648 : Nat) : Int) = ((v % 2147483648 : Nat) : Int) := by
    rw [andNotF_def]
    unfold andNotG
    rw [toU_nat .u32 (by rw [two_pow_topA]; exact h), toU_nat .u32 (by rw [two_pow_topA]; decide)]
    have e2 : Nat.xor 2147483648 (allU .u32) = 2147483648 - 1 := by decide +kernel
    rw [e2]
    have e3 : Nat.land v (2147483648 - 1) = v % 2147483648 := Nat.and_two_pow_sub_one_eq_mod v 31
    rw [e3]
    exact wrapF_nat .u32 (by rw [two_pow_topA]; show v % 2147483648 < 4294967296; omega)
  exact e

theorem bit31 {v : Nat} (h : v < 4294967296) : decide (andF .u32 (v : Int) 2147483648 = 0) = !(decide (2147483648 ≤ v)) := by
  have e : andF .u32 (v : Int) ((2147483648 : Nat) : Int) = ((v &&& 2147483648 : Nat) : Int) := andF_nat .u32 (by rw [two_pow_topA]; exact h) (by rw [two_pow_topA]; decide)
  have e3 : v.testBit 31 = decide (v / 2147483648 % 2 = 1) := Nat.testBit_eq_decide_div_mod_eq
  have e' : andF .u32 (v : Int) 2147483648 = ((v &&& 2147483648 : Nat) : Int) := e
  have et : ∀ i, Nat.testBit 2147483648 i = decide (31 = i) := fun i => by
    have := @Nat.testBit_two_pow 31 i
    exact this
  rw [e']
  by_cases c : 2147483648 ≤ v
  · rw [deT c, deF]
    · rfl
    · intro h0
      have h1 : v &&& 2147483648 = 0 := by omega
      have h2 : (v &&& 2147483648).testBit 31 = (0 : Nat).testBit 31 := by rw [h1]
      rw [Nat.testBit_and, e3, et, deT (p := v / 2147483648 % 2 = 1) (by omega), Nat.zero_testBit] at h2
      cases h2
  · have h1 : v &&& 2147483648 = 0 := by
      apply Nat.eq_of_testBit_eq
      intro i
      rw [Nat.testBit_and, et, Nat.zero_testBit]
      by_cases hi : 31 = i
      · subst hi
        rw [e3, deF (p := v / 2147483648 % 2 = 1) (by omega)]
        rfl
      · rw [deF hi, Bool.and_false]
    rw [deF c, h1]
    rfl

theorem begins_ok {N n frags held : Nat} {l : Bool} {h part : List Int} (hb : Bts h) (h4 : h.length = 4) (hf : frags ≤ 32) (hp : part.length ≤ 4096) (hN : 8 < N) :
    rpc_Framer_begins_v1 N ((n : Int), l, (frags : Int), (held : Int), false, h, part) =
      some (decide (part.length + val h % 2147483648 ≤ 4096 ∧ frags + 1 ≤ 32), ((val h % 2147483648 : Nat) : Int), decide (2147483648 ≤ val h), ((frags + 1 : Nat) : Int), (held : Int), false, h, part) := by
  have hv : val h < 4294967296 := val_lt hb (Nat.le_of_eq h4)
  unfold rpc_Framer_begins_v1
  dsimp only
  rw [deT (p := (4 : Int) ≤ ((h.length : Nat) : Int)) (by omega), cond_true, deT (p := 4 ≤ h.length) (by omega), cond_true, cond_true, List.drop_zero, List.take_of_length_le (by omega), get_ok hb (by omega) hN, Option.bind_some]
  rw [wrapF_u32 (n := ((val h : Nat) : Int)) (by omega) (by omega), top31 hv, bit31 hv, Bool.not_not, wrapF_i64 (n := ((val h % 2147483648 : Nat) : Int)) (by omega) (by omega), wrapF_i64 (n := ((part.length : Nat) : Int) + _) (by omega) (by omega), wrapF_i64 (n := (frags : Int) + 1) (by omega) (by omega)]
  by_cases c1 : part.length + val h % 2147483648 ≤ 4096
  · rw [deT (p := ((part.length : Nat) : Int) + ((val h % 2147483648 : Nat) : Int) ≤ 4096) (by omega), cond_true, Option.bind_some]
    by_cases c2 : frags + 1 ≤ 32
    · rw [deT (p := (frags : Int) + 1 ≤ 32) (by omega), deT (p := part.length + val h % 2147483648 ≤ 4096 ∧ frags + 1 ≤ 32) ⟨c1, c2⟩]; rfl
    · rw [deF (p := (frags : Int) + 1 ≤ 32) (by omega), deF (p := part.length + val h % 2147483648 ≤ 4096 ∧ frags + 1 ≤ 32) (fun hx => c2 hx.2)]; rfl
  · rw [deF (p := ((part.length : Nat) : Int) + ((val h % 2147483648 : Nat) : Int) ≤ 4096) (by omega), cond_false, Option.bind_some, deF (p := part.length + val h % 2147483648 ≤ 4096 ∧ frags + 1 ≤ 32) (fun hx => c1 hx.1)]; rfl

def FS.out (t : FS) : (Int × Bool × Int × Int × Bool × (List (List Int)) × (List Int) × (List Int)) ⊕ List (List Int) :=
  if t.closed = true then .inr t.recs else .inl ((t.n : Int), t.last, (t.frags : Int), (t.held : Int), false, t.recs, t.head, t.part)

theorem fits24 {n : Nat} (h : n < 1000000) : fits 24 n = true := by simp [fits]; omega



theorem feed_loop {N : Nat} (hN : 8 < N) : ∀ (f : Nat) (c : List Int) (s : FS), c.length < f → s.closed = false → s.ok → (s.head.length ≤ 3) → Bts c → s.held + c.length < 500000 → s.recs.length + c.length < 100000 →
    loopF (rpc_Framer_Feed_v1_b1 N) f (c, decide ((0 : Int) < (s.n : Int)), (s.n : Int), s.last, (s.frags : Int), (s.held : Int), false, s.head, s.part, s.recs) = some (s.run c).out := by
  intro f
  induction f with
  | zero => intro c s h; omega
  | succ f ih =>
    intro c s hf hcl hok hhd hb hh hr0
    show rpc_Framer_Feed_v1_b1 N (loopF (rpc_Framer_Feed_v1_b1 N) f) _ = _
    generalize loopF (rpc_Framer_Feed_v1_b1 N) f = nx at ih
    obtain ⟨n, last, frags, held, closed, head, part, recs⟩ := s
    obtain ⟨o1, o2, o3, o4⟩ := hok
    dsimp only at hcl hhd hh hr0 o1 o2 o3 o4 ⊢
    subst hcl

    unfold rpc_Framer_Feed_v1_b1
    dsimp only
    by_cases hc0 : c.length = 0
    · have : c = [] := List.length_eq_zero_iff.1 hc0
      subst this
      rfl
    rw [deT (p := (0 : Int) < ((List.length c : Nat) : Int)) (by omega), cond_true]
    by_cases hn : 0 < n
    · rw [deT (p := (0 : Int) < ((n : Nat) : Int)) (by omega), Bool.not_true, cond_false, Option.bind_some]
      dsimp only
      have hrun := run_rest c ⟨n, last, frags, held, false, head, part, recs⟩ rfl
      have hset : FS.settle ⟨n, last, frags, held, false, head, part, recs⟩ = ⟨n, last, frags, held, false, head, part, recs⟩ := by unfold FS.settle; rw [if_neg (fun h => by have := h.1; dsimp only at this; omega)]
      rw [hset] at hrun
      rw [hrun]
      dsimp only
      generalize hk : min (List.length c) n = k
      have ek : (if ((List.length c : Nat) : Int) < (n : Int) then ((List.length c : Nat) : Int) else (n : Int)) = ((k : Nat) : Int) := by split <;> omega
      have hr : List.take (List.length c - k) (List.drop k c) = List.drop k c := List.take_of_length_le (by rw [List.length_drop]; omega)
      have hpl : (part ++ List.take k c).length ≤ 4096 := by rw [List.length_append, List.length_take]; omega
      rw [ek, deT (p := (0 : Int) ≤ ((k : Nat) : Int)) (by omega), deT (p := ((k : Nat) : Int) ≤ ((List.length c : Nat) : Int)) (by omega), Bool.and_self, cond_true, Int.toNat_natCast, List.drop_zero, fits1 (by rw [List.length_append] at hpl; omega), cond_true, deT (p := ((List.length c : Nat) : Int) ≤ ((List.length c : Nat) : Int)) (by omega), Bool.and_self, cond_true, hr, wrapF_i64 (n := (n : Int) - ((k : Nat) : Int)) (by omega) (by omega), show (n : Int) - ((k : Nat) : Int) = ((n - k : Nat) : Int) by omega]
      have hb1 : Bts (List.drop k c) := bts_drop hb k
      by_cases hfull : n - k = 0 ∧ last = true
      · have hst : FS.settle ⟨n - k, last, frags, held + k, false, head, part ++ List.take k c, recs⟩ = ⟨0, false, 0, 0, false, [], [], recs ++ [part ++ List.take k c]⟩ := by unfold FS.settle; rw [if_pos hfull]
        rw [hst]
        rw [deF (p := (0 : Int) < ((n - k : Nat) : Int)) (by omega), cond_false, hfull.2, Bool.not_true, Option.bind_some, cond_false, fits1 (by omega), cond_true, fits24 (by simp; omega), cond_true, Option.bind_some]
        exact ih (List.drop k c) ⟨0, false, 0, 0, false, [], [], recs ++ [part ++ List.take k c]⟩ (by rw [List.length_drop]; omega) rfl ⟨Nat.zero_le _, Nat.zero_le _, by simp, fun x hx => by cases hx⟩ (Nat.zero_le _) hb1 (by rw [List.length_drop]; dsimp only; omega) (by rw [List.length_drop]; simp; omega)
      · have hst : FS.settle ⟨n - k, last, frags, held + k, false, head, part ++ List.take k c, recs⟩ = ⟨n - k, last, frags, held + k, false, head, part ++ List.take k c, recs⟩ := by unfold FS.settle; rw [if_neg hfull]
        have hm' : (bif decide ((0 : Int) < ((n - k : Nat) : Int)) then some true else some (!last)) = some true := by
          by_cases h0 : n - k = 0
          · rw [deF (p := (0 : Int) < ((n - k : Nat) : Int)) (by omega)]
            cases hl : last with
            | false => rfl
            | true => exact absurd ⟨h0, hl⟩ hfull
          · rw [deT (p := (0 : Int) < ((n - k : Nat) : Int)) (by omega)]; rfl
        rw [hm', Option.bind_some, cond_true, Option.bind_some, wrapF_i64 (n := ((held : Nat) : Int) + ((k : Nat) : Int)) (by omega) (by omega), hst]
        exact ih (List.drop k c) ⟨n - k, last, frags, held + k, false, head, part ++ List.take k c, recs⟩ (by rw [List.length_drop]; omega) rfl ⟨by exact o1, by dsimp only; omega, by dsimp only; rw [List.length_append, List.length_take]; omega, o4⟩ o1 hb1 (by rw [List.length_drop]; dsimp only; omega) (by rw [List.length_drop]; dsimp only; omega)
    · have hn0 : n = 0 := by omega
      subst hn0
      rw [deF (p := (0 : Int) < (((0 : Nat) : Nat) : Int)) (by decide), Bool.not_false, cond_true]
      have em : (if ((List.length c : Nat) : Int) < wrapF .i64 ((4 : Int) - ((List.length head : Nat) : Int)) then ((List.length c : Nat) : Int) else wrapF .i64 ((4 : Int) - ((List.length head : Nat) : Int))) = ((min c.length (4 - head.length) : Nat) : Int) := by
        rw [wrapF_i64 (by omega) (by omega)]
        split <;> omega
      rw [em]
      generalize hm : min c.length (4 - head.length) = m
      have htl : (List.take m c).length = m := by rw [List.length_take]; omega
      rw [deT (p := (0 : Int) ≤ ((m : Nat) : Int)) (by omega), deT (p := ((m : Nat) : Int) ≤ ((List.length c : Nat) : Int)) (by omega), Bool.and_self, cond_true, Int.toNat_natCast, List.drop_zero, fits1 (by rw [htl]; omega), cond_true, deT (p := ((List.length c : Nat) : Int) ≤ ((List.length c : Nat) : Int)) (by omega), Bool.and_self, cond_true, wrapF_i64 (n := (held : Int) + ((m : Nat) : Int)) (by omega) (by omega)]
      have hcut : c = List.take m c ++ List.drop m c := (List.take_append_drop _ _).symm
      by_cases hsh : head.length + m < 4
      · rw [deT (p := (((head ++ List.take m c).length : Nat) : Int) < 4) (by rw [List.length_append, htl]; omega), cond_true, Option.bind_some, Option.bind_some]
        have hmc : m = c.length := by omega
        have ht : List.take m c = c := List.take_of_length_le (by omega)
        rw [run_head c ⟨0, last, frags, held, false, head, part, recs⟩ rfl rfl (by dsimp only; omega), ht, hmc]
        rfl
      have h4 : (head ++ List.take m c).length = 4 := by rw [List.length_append, htl]; omega
      have hbh : Bts (head ++ List.take m c) := fun x hx => by rcases List.mem_append.1 hx with h | h; exact o4 x h; exact bts_take hb m x h
      rw [deF (p := (((head ++ List.take m c).length : Nat) : Int) < 4) (by omega), cond_false]
      have hbg := begins_ok (N := N) (n := 0) (frags := frags) (held := held + m) (l := last) hbh h4 o2 (show part.length ≤ 4096 by omega) hN
      rw [show (((0 : Nat)) : Int) = 0 from rfl, show ((held + m : Nat) : Int) = (held : Int) + ((m : Nat) : Int) by omega] at hbg
      rw [show (((0 : Nat)) : Int) = 0 from rfl, hbg, Option.bind_some]
      dsimp only
      have hrun4 := run_head4 (List.take m c) ⟨0, last, frags, held, false, head, part, recs⟩ rfl rfl o1 (by rw [htl]; dsimp only; omega)
      have hwhole : FS.run ⟨0, last, frags, held, false, head, part, recs⟩ c = (FS.begins ⟨0, last, frags, held, false, head, part, recs⟩ (head ++ List.take m c) m).run (List.drop m c) := by
        conv => lhs; rw [hcut]
        rw [run_append, hrun4, htl]
      rw [hwhole]
      have hv : val (head ++ List.take m c) % 2147483648 < 2147483648 := Nat.mod_lt _ (by decide)
      unfold FS.begins
      dsimp only
      by_cases hgo : part.length + val (head ++ List.take m c) % 2147483648 ≤ 4096 ∧ frags + 1 ≤ 32
      · rw [deT hgo, if_pos hgo, Bool.not_true, cond_false, Option.bind_some]
        dsimp only
        have hr1 : List.take (List.length c - m) (List.drop m c) = List.drop m c := List.take_of_length_le (by rw [List.length_drop]; omega)
        rw [hr1]
        have hdl : (List.drop m c).length = c.length - m := List.length_drop
        have hbd : Bts (List.drop m c) := bts_drop hb m
        have hrun := run_rest (List.drop m c) ⟨val (head ++ List.take m c) % 2147483648, decide (2147483648 ≤ val (head ++ List.take m c)), frags + 1, held + m, false, [], part, recs⟩ rfl
        dsimp only at hrun
        rw [hrun]
        clear hrun hrun4 hwhole hbg
        generalize decide (2147483648 ≤ val (head ++ List.take m c)) = last'
        generalize val (head ++ List.take m c) % 2147483648 = sz at hv hgo ⊢
        rw [show (held : Int) + ((m : Nat) : Int) = ((held + m : Nat) : Int) by omega]
        generalize List.drop m c = c' at hdl hbd ⊢
        generalize hk : min (List.length c') sz = k
        have ek : (if ((List.length c' : Nat) : Int) < (sz : Int) then ((List.length c' : Nat) : Int) else (sz : Int)) = ((k : Nat) : Int) := by split <;> omega
        have hr : List.take (List.length c' - k) (List.drop k c') = List.drop k c' := List.take_of_length_le (by rw [List.length_drop]; omega)
        have hpl : (part ++ List.take k c').length ≤ 4096 := by rw [List.length_append, List.length_take]; omega
        rw [ek, deT (p := (0 : Int) ≤ ((k : Nat) : Int)) (by omega), deT (p := ((k : Nat) : Int) ≤ ((List.length c' : Nat) : Int)) (by omega), Bool.and_self, cond_true, Int.toNat_natCast, List.drop_zero, fits1 (by rw [List.length_append] at hpl; omega), cond_true, deT (p := ((List.length c' : Nat) : Int) ≤ ((List.length c' : Nat) : Int)) (by omega), Bool.and_self, cond_true, hr, wrapF_i64 (n := (sz : Int) - ((k : Nat) : Int)) (by omega) (by omega), show (sz : Int) - ((k : Nat) : Int) = ((sz - k : Nat) : Int) by omega]
        have hb1 : Bts (List.drop k c') := bts_drop hbd k
        by_cases hfull : sz - k = 0 ∧ last' = true
        · have hst : FS.settle ⟨sz - k, last', (frags + 1), (held + m) + k, false, ([] : List Int), part ++ List.take k c', recs⟩ = ⟨0, false, 0, 0, false, [], [], recs ++ [part ++ List.take k c']⟩ := by unfold FS.settle; rw [if_pos hfull]
          rw [hst]
          rw [deF (p := (0 : Int) < ((sz - k : Nat) : Int)) (by omega), cond_false, hfull.2, Bool.not_true, Option.bind_some, cond_false, fits1 (by omega), cond_true, fits24 (by simp; omega), cond_true, Option.bind_some]
          exact ih (List.drop k c') ⟨0, false, 0, 0, false, [], [], recs ++ [part ++ List.take k c']⟩ (by rw [List.length_drop]; omega) rfl ⟨Nat.zero_le _, Nat.zero_le _, by simp, fun x hx => by cases hx⟩ (Nat.zero_le _) hb1 (by rw [List.length_drop]; dsimp only; omega) (by rw [List.length_drop]; simp; omega)
        · have hst : FS.settle ⟨sz - k, last', (frags + 1), (held + m) + k, false, ([] : List Int), part ++ List.take k c', recs⟩ = ⟨sz - k, last', (frags + 1), (held + m) + k, false, ([] : List Int), part ++ List.take k c', recs⟩ := by unfold FS.settle; rw [if_neg hfull]
          have hm' : (bif decide ((0 : Int) < ((sz - k : Nat) : Int)) then some true else some (!last')) = some true := by
            by_cases h0 : sz - k = 0
            · rw [deF (p := (0 : Int) < ((sz - k : Nat) : Int)) (by omega)]
              cases hl : last' with
              | false => rfl
              | true => exact absurd ⟨h0, hl⟩ hfull
            · rw [deT (p := (0 : Int) < ((sz - k : Nat) : Int)) (by omega)]; rfl
          rw [hm', Option.bind_some, cond_true, Option.bind_some, wrapF_i64 (n := (((held + m) : Nat) : Int) + ((k : Nat) : Int)) (by omega) (by omega), hst]
          exact ih (List.drop k c') ⟨sz - k, last', (frags + 1), (held + m) + k, false, ([] : List Int), part ++ List.take k c', recs⟩ (by rw [List.length_drop]; omega) rfl ⟨by exact Nat.zero_le _, by dsimp only; omega, by dsimp only; rw [List.length_append, List.length_take]; omega, (fun x hx => by cases hx)⟩ (Nat.zero_le _) hb1 (by rw [List.length_drop]; dsimp only; omega) (by rw [List.length_drop]; dsimp only; omega)
      · rw [deF hgo, if_neg hgo, Bool.not_false, cond_true, Option.bind_some, Option.bind_some, run_closed _ _ rfl]
        rfl


theorem feed0_loop {N : Nat} (hN : 8 < N) : ∀ (f : Nat) (c : List Int) (s : FS), c.length < f → s.closed = false → s.ok → (s.head = []) → Bts c → s.held + c.length < 500000 → s.recs.length + c.length < 100000 →
    loopF (rpc_Framer_Feed_b1 N) f (c, decide ((0 : Int) < (s.n : Int)), (s.n : Int), s.last, (s.frags : Int), (s.held : Int), false, s.recs, s.part) = some (s.run c).out := by
  intro f
  induction f with
  | zero => intro c s h; omega
  | succ f ih =>
    intro c s hf hcl hok hhd hb hh hr0
    show rpc_Framer_Feed_b1 N (loopF (rpc_Framer_Feed_b1 N) f) _ = _
    generalize loopF (rpc_Framer_Feed_b1 N) f = nx at ih
    obtain ⟨n, last, frags, held, closed, head, part, recs⟩ := s
    obtain ⟨o1, o2, o3, o4⟩ := hok
    dsimp only at hcl hhd hh hr0 o1 o2 o3 o4 ⊢
    subst hcl
    subst hhd
    unfold rpc_Framer_Feed_b1
    dsimp only
    by_cases hc0 : c.length = 0
    · have : c = [] := List.length_eq_zero_iff.1 hc0
      subst this
      rfl
    rw [deT (p := (0 : Int) < ((List.length c : Nat) : Int)) (by omega), cond_true]
    by_cases hn : 0 < n
    · rw [deT (p := (0 : Int) < ((n : Nat) : Int)) (by omega), Bool.not_true, cond_false, Option.bind_some]
      dsimp only
      have hrun := run_rest c ⟨n, last, frags, held, false, ([] : List Int), part, recs⟩ rfl
      have hset : FS.settle ⟨n, last, frags, held, false, ([] : List Int), part, recs⟩ = ⟨n, last, frags, held, false, ([] : List Int), part, recs⟩ := by unfold FS.settle; rw [if_neg (fun h => by have := h.1; dsimp only at this; omega)]
      rw [hset] at hrun
      rw [hrun]
      dsimp only
      generalize hk : min (List.length c) n = k
      have ek : (if ((List.length c : Nat) : Int) < (n : Int) then ((List.length c : Nat) : Int) else (n : Int)) = ((k : Nat) : Int) := by split <;> omega
      have hr : List.take (List.length c - k) (List.drop k c) = List.drop k c := List.take_of_length_le (by rw [List.length_drop]; omega)
      have hpl : (part ++ List.take k c).length ≤ 4096 := by rw [List.length_append, List.length_take]; omega
      rw [ek, deT (p := (0 : Int) ≤ ((k : Nat) : Int)) (by omega), deT (p := ((k : Nat) : Int) ≤ ((List.length c : Nat) : Int)) (by omega), Bool.and_self, cond_true, Int.toNat_natCast, List.drop_zero, fits1 (by rw [List.length_append] at hpl; omega), cond_true, deT (p := ((List.length c : Nat) : Int) ≤ ((List.length c : Nat) : Int)) (by omega), Bool.and_self, cond_true, hr, wrapF_i64 (n := (n : Int) - ((k : Nat) : Int)) (by omega) (by omega), show (n : Int) - ((k : Nat) : Int) = ((n - k : Nat) : Int) by omega]
      have hb1 : Bts (List.drop k c) := bts_drop hb k
      by_cases hfull : n - k = 0 ∧ last = true
      · have hst : FS.settle ⟨n - k, last, frags, held + k, false, ([] : List Int), part ++ List.take k c, recs⟩ = ⟨0, false, 0, 0, false, [], [], recs ++ [part ++ List.take k c]⟩ := by unfold FS.settle; rw [if_pos hfull]
        rw [hst]
        rw [deF (p := (0 : Int) < ((n - k : Nat) : Int)) (by omega), cond_false, hfull.2, Bool.not_true, Option.bind_some, cond_false, fits1 (by omega), cond_true, fits24 (by simp; omega), cond_true, Option.bind_some]
        exact ih (List.drop k c) ⟨0, false, 0, 0, false, [], [], recs ++ [part ++ List.take k c]⟩ (by rw [List.length_drop]; omega) rfl ⟨Nat.zero_le _, Nat.zero_le _, by simp, fun x hx => by cases hx⟩ rfl hb1 (by rw [List.length_drop]; dsimp only; omega) (by rw [List.length_drop]; simp; omega)
      · have hst : FS.settle ⟨n - k, last, frags, held + k, false, ([] : List Int), part ++ List.take k c, recs⟩ = ⟨n - k, last, frags, held + k, false, ([] : List Int), part ++ List.take k c, recs⟩ := by unfold FS.settle; rw [if_neg hfull]
        have hm' : (bif decide ((0 : Int) < ((n - k : Nat) : Int)) then some true else some (!last)) = some true := by
          by_cases h0 : n - k = 0
          · rw [deF (p := (0 : Int) < ((n - k : Nat) : Int)) (by omega)]
            cases hl : last with
            | false => rfl
            | true => exact absurd ⟨h0, hl⟩ hfull
          · rw [deT (p := (0 : Int) < ((n - k : Nat) : Int)) (by omega)]; rfl
        rw [hm', Option.bind_some, cond_true, Option.bind_some, wrapF_i64 (n := ((held : Nat) : Int) + ((k : Nat) : Int)) (by omega) (by omega), hst]
        exact ih (List.drop k c) ⟨n - k, last, frags, held + k, false, ([] : List Int), part ++ List.take k c, recs⟩ (by rw [List.length_drop]; omega) rfl ⟨by exact Nat.zero_le _, by dsimp only; omega, by dsimp only; rw [List.length_append, List.length_take]; omega, (fun x hx => by cases hx)⟩ rfl hb1 (by rw [List.length_drop]; dsimp only; omega) (by rw [List.length_drop]; dsimp only; omega)
    · have hn0 : n = 0 := by omega
      subst hn0
      rw [deF (p := (0 : Int) < (((0 : Nat) : Nat) : Int)) (by decide), Bool.not_false, cond_true]
      have em : (if ((List.length c : Nat) : Int) < (4 : Int) then ((List.length c : Nat) : Int) else (4 : Int)) = ((min c.length 4 : Nat) : Int) := by
        split <;> omega
      rw [em]
      generalize hm : min c.length 4 = m
      have htl : (List.take m c).length = m := by rw [List.length_take]; omega
      rw [deT (p := (0 : Int) ≤ ((m : Nat) : Int)) (by omega), deT (p := ((m : Nat) : Int) ≤ ((List.length c : Nat) : Int)) (by omega), Bool.and_self, cond_true, Int.toNat_natCast, List.drop_zero, fits1 (by rw [htl]; omega), cond_true, deT (p := ((List.length c : Nat) : Int) ≤ ((List.length c : Nat) : Int)) (by omega), Bool.and_self, cond_true, wrapF_i64 (n := (held : Int) + ((m : Nat) : Int)) (by omega) (by omega)]
      have hcut : c = List.take m c ++ List.drop m c := (List.take_append_drop _ _).symm
      by_cases hsh : m < 4
      · rw [deT (p := (((List.take m c).length : Nat) : Int) < 4) (by rw [htl]; omega), cond_true, Option.bind_some, Option.bind_some]
        have hmc : m = c.length := by omega
        have ht : List.take m c = c := List.take_of_length_le (by omega)
        rw [run_head c ⟨0, last, frags, held, false, [], part, recs⟩ rfl rfl (by dsimp only; simp; omega), ht, hmc]
        rfl
      have h4 : (List.take m c).length = 4 := by rw [htl]; omega
      have hbh : Bts (List.take m c) := bts_take hb m
      rw [deF (p := (((List.take m c).length : Nat) : Int) < 4) (by omega), cond_false]
      have hbg := begins_ok (N := N) (n := 0) (frags := frags) (held := held + m) (l := last) hbh h4 o2 (show part.length ≤ 4096 by omega) hN
      rw [show (((0 : Nat)) : Int) = 0 from rfl, show ((held + m : Nat) : Int) = (held : Int) + ((m : Nat) : Int) by omega] at hbg
      rw [show (((0 : Nat)) : Int) = 0 from rfl, hbg, Option.bind_some]
      dsimp only
      have hrun4 := run_head4 (List.take m c) ⟨0, last, frags, held, false, ([] : List Int), part, recs⟩ rfl rfl o1 (by rw [htl]; simp; omega)
      have hwhole : FS.run ⟨0, last, frags, held, false, ([] : List Int), part, recs⟩ c = (FS.begins ⟨0, last, frags, held, false, ([] : List Int), part, recs⟩ (List.take m c) m).run (List.drop m c) := by
        conv => lhs; rw [hcut]
        rw [run_append, hrun4, htl]
        rfl
      rw [hwhole]
      have hv : val (List.take m c) % 2147483648 < 2147483648 := Nat.mod_lt _ (by decide)
      unfold FS.begins
      dsimp only
      by_cases hgo : part.length + val (List.take m c) % 2147483648 ≤ 4096 ∧ frags + 1 ≤ 32
      · rw [deT hgo, if_pos hgo, Bool.not_true, cond_false, Option.bind_some]
        dsimp only
        have hr1 : List.take (List.length c - m) (List.drop m c) = List.drop m c := List.take_of_length_le (by rw [List.length_drop]; omega)
        rw [hr1]
        have hdl : (List.drop m c).length = c.length - m := List.length_drop
        have hbd : Bts (List.drop m c) := bts_drop hb m
        have hrun := run_rest (List.drop m c) ⟨val (List.take m c) % 2147483648, decide (2147483648 ≤ val (List.take m c)), frags + 1, held + m, false, [], part, recs⟩ rfl
        dsimp only at hrun
        rw [hrun]
        clear hrun hrun4 hwhole hbg
        generalize decide (2147483648 ≤ val (List.take m c)) = last'
        generalize val (List.take m c) % 2147483648 = sz at hv hgo ⊢
        rw [show (held : Int) + ((m : Nat) : Int) = ((held + m : Nat) : Int) by omega]
        generalize List.drop m c = c' at hdl hbd ⊢
        generalize hk : min (List.length c') sz = k
        have ek : (if ((List.length c' : Nat) : Int) < (sz : Int) then ((List.length c' : Nat) : Int) else (sz : Int)) = ((k : Nat) : Int) := by split <;> omega
        have hr : List.take (List.length c' - k) (List.drop k c') = List.drop k c' := List.take_of_length_le (by rw [List.length_drop]; omega)
        have hpl : (part ++ List.take k c').length ≤ 4096 := by rw [List.length_append, List.length_take]; omega
        rw [ek, deT (p := (0 : Int) ≤ ((k : Nat) : Int)) (by omega), deT (p := ((k : Nat) : Int) ≤ ((List.length c' : Nat) : Int)) (by omega), Bool.and_self, cond_true, Int.toNat_natCast, List.drop_zero, fits1 (by rw [List.length_append] at hpl; omega), cond_true, deT (p := ((List.length c' : Nat) : Int) ≤ ((List.length c' : Nat) : Int)) (by omega), Bool.and_self, cond_true, hr, wrapF_i64 (n := (sz : Int) - ((k : Nat) : Int)) (by omega) (by omega), show (sz : Int) - ((k : Nat) : Int) = ((sz - k : Nat) : Int) by omega]
        have hb1 : Bts (List.drop k c') := bts_drop hbd k
        by_cases hfull : sz - k = 0 ∧ last' = true
        · have hst : FS.settle ⟨sz - k, last', (frags + 1), (held + m) + k, false, ([] : List Int), part ++ List.take k c', recs⟩ = ⟨0, false, 0, 0, false, [], [], recs ++ [part ++ List.take k c']⟩ := by unfold FS.settle; rw [if_pos hfull]
          rw [hst]
          rw [deF (p := (0 : Int) < ((sz - k : Nat) : Int)) (by omega), cond_false, hfull.2, Bool.not_true, Option.bind_some, cond_false, fits1 (by omega), cond_true, fits24 (by simp; omega), cond_true, Option.bind_some]
          exact ih (List.drop k c') ⟨0, false, 0, 0, false, [], [], recs ++ [part ++ List.take k c']⟩ (by rw [List.length_drop]; omega) rfl ⟨Nat.zero_le _, Nat.zero_le _, by simp, fun x hx => by cases hx⟩ rfl hb1 (by rw [List.length_drop]; dsimp only; omega) (by rw [List.length_drop]; simp; omega)
        · have hst : FS.settle ⟨sz - k, last', (frags + 1), (held + m) + k, false, ([] : List Int), part ++ List.take k c', recs⟩ = ⟨sz - k, last', (frags + 1), (held + m) + k, false, ([] : List Int), part ++ List.take k c', recs⟩ := by unfold FS.settle; rw [if_neg hfull]
          have hm' : (bif decide ((0 : Int) < ((sz - k : Nat) : Int)) then some true else some (!last')) = some true := by
            by_cases h0 : sz - k = 0
            · rw [deF (p := (0 : Int) < ((sz - k : Nat) : Int)) (by omega)]
              cases hl : last' with
              | false => rfl
              | true => exact absurd ⟨h0, hl⟩ hfull
            · rw [deT (p := (0 : Int) < ((sz - k : Nat) : Int)) (by omega)]; rfl
          rw [hm', Option.bind_some, cond_true, Option.bind_some, wrapF_i64 (n := (((held + m) : Nat) : Int) + ((k : Nat) : Int)) (by omega) (by omega), hst]
          exact ih (List.drop k c') ⟨sz - k, last', (frags + 1), (held + m) + k, false, ([] : List Int), part ++ List.take k c', recs⟩ (by rw [List.length_drop]; omega) rfl ⟨by exact Nat.zero_le _, by dsimp only; omega, by dsimp only; rw [List.length_append, List.length_take]; omega, (fun x hx => by cases hx)⟩ rfl hb1 (by rw [List.length_drop]; dsimp only; omega) (by rw [List.length_drop]; dsimp only; omega)
      · rw [deF hgo, if_neg hgo, Bool.not_false, cond_true, Option.bind_some, Option.bind_some, run_closed _ _ rfl]
        rfl

end Go.Rf.W.Pure
