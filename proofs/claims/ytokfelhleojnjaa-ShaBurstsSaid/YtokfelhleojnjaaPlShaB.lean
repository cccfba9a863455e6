/-
  Package sha: check sums of bytes that differ within 32 neighbouring bits are unlike.
-/
import Derived.Test.YtokfelhleojnjaaPlShaL
set_option linter.unusedVariables false
set_option maxRecDepth 10000
namespace Go.Rf.W
open Go Go.Rf
namespace Sha

theorem M_inj {x y : Nat} (hx : x < 4294967296) (hy : y < 4294967296) (h : M x = M y) : x = y := by
  have top : ∀ z, z < 4294967296 → (M z).testBit 31 = decide (z % 2 = 1) := fun z hz => by
    have h1 : (z / 2).testBit 31 = false := Nat.testBit_lt_two_pow (by omega)
    unfold M
    split
    · rename_i e
      rw [Nat.testBit_xor, h1, deT e]; decide
    · rename_i e
      rw [h1, deF e]
  have hp : decide (x % 2 = 1) = decide (y % 2 = 1) := by rw [← top x hx, ← top y hy, h]
  unfold M at h
  by_cases e : x % 2 = 1
  · have e' : y % 2 = 1 := by rw [deT e] at hp; exact of_decide_eq_true hp.symm
    rw [if_pos e, if_pos e'] at h
    have : x / 2 = y / 2 := by
      have := congrArg (· ^^^ 2197175160) h
      simpa [Nat.xor_assoc] using this
    omega
  · have e' : ¬ y % 2 = 1 := by rw [deF e] at hp; exact of_decide_eq_false hp.symm
    rw [if_neg e, if_neg e'] at h
    omega

def run (x : Nat) : List Bool → Nat
  | [] => x
  | b :: l => run (M (x ^^^ b.toNat)) l

theorem bit_lt (b : Bool) : b.toNat < 4294967296 := by cases b <;> decide
theorem run_lt : ∀ (l : List Bool) (x : Nat), x < 4294967296 → run x l < 4294967296
  | [], _, h => h
  | b :: l, x, h => run_lt l _ (M_lt (xor_lt h (bit_lt b)))

theorem run_inj : ∀ (l : List Bool) {x y : Nat}, x < 4294967296 → y < 4294967296 → run x l = run y l → x = y
  | [], _, _, _, _, h => h
  | b :: l, x, y, hx, hy, h => by
    have h1 := run_inj l (M_lt (xor_lt hx (bit_lt b))) (M_lt (xor_lt hy (bit_lt b))) h
    have h2 := M_inj (xor_lt hx (bit_lt b)) (xor_lt hy (bit_lt b)) h1
    have := congrArg (· ^^^ b.toNat) h2
    simpa [Nat.xor_assoc] using this

theorem run_append : ∀ (l m : List Bool) (x : Nat), run x (l ++ m) = run (run x l) m
  | [], _, _ => rfl
  | b :: l, m, x => run_append l m _

/-- A number out of its bits, the lowest first. -/
def num : List Bool → Nat
  | [] => 0
  | b :: l => b.toNat ^^^ 2 * num l

theorem num_lt : ∀ (l : List Bool), num l < 2 ^ l.length
  | [] => by decide
  | b :: l => by
    have h := num_lt l
    show b.toNat ^^^ 2 * num l < _
    refine Nat.xor_lt_two_pow ?_ ?_
    · rw [List.length_cons, Nat.pow_succ]
      have : 0 < 2 ^ l.length := Nat.two_pow_pos _
      cases b <;> simp <;> omega
    · rw [List.length_cons, Nat.pow_succ]; omega

theorem low_eq (b : Bool) (v : Nat) : (b.toNat ^^^ 2 * v) % 2 = b.toNat := by
  rw [show (2 : Nat) = 2 ^ 1 from rfl, Nat.xor_mod_two_pow, Nat.mul_mod_right, Nat.xor_zero]
  cases b <;> rfl
theorem high_eq (b : Bool) (v : Nat) : (b.toNat ^^^ 2 * v) / 2 = v := by
  have e : b.toNat / 2 ^^^ 2 * v / 2 = v := by rw [Nat.mul_div_cancel_left _ (by decide)]; cases b <;> simp
  have h : (b.toNat ^^^ 2 * v) / 2 = b.toNat / 2 ^^^ 2 * v / 2 := by
    have := @Nat.xor_div_two_pow b.toNat (2 * v) 1
    simpa using this
  rw [h, e]

theorem num_inj : ∀ {l m : List Bool}, l.length = m.length → num l = num m → l = m
  | [], [], _, _ => rfl
  | a :: l, b :: m, hl, h => by
    have h1 : a.toNat = b.toNat := by rw [← low_eq a (num l), ← low_eq b (num m)]; exact congrArg (· % 2) h
    have h2 : num l = num m := by rw [← high_eq a (num l), ← high_eq b (num m)]; exact congrArg (· / 2) h
    rw [num_inj (by simpa using hl) h2]
    cases a <;> cases b <;> simp_all
  | [], _ :: _, hl, _ => by simp at hl
  | _ :: _, [], hl, _ => by simp at hl

theorem run_num : ∀ {l m : List Bool}, l.length = m.length → l.length ≤ 32 → ∀ {x y : Nat}, x < 4294967296 → y < 4294967296 → run x l = run y m → x ^^^ num l = y ^^^ num m
  | [], [], _, _, x, y, _, _, h => by simpa [num, run] using h
  | a :: l, b :: m, hl, h32, x, y, hx, hy, h => by
    have hl' : l.length = m.length := by simpa using hl
    have ih := run_num (l := l) (m := m) hl' (by simp at h32; omega) (M_lt (xor_lt hx (bit_lt a))) (M_lt (xor_lt hy (bit_lt b))) h
    rw [← M_xor, ← M_xor] at ih
    have b1 : 2 * num l < 4294967296 := by
      have := num_lt l
      have : 2 ^ l.length ≤ 2 ^ 31 := Nat.pow_le_pow_right (by decide) (by simp at h32; omega)
      omega
    have b2 : 2 * num m < 4294967296 := by
      have := num_lt m
      have : 2 ^ m.length ≤ 2 ^ 31 := Nat.pow_le_pow_right (by decide) (by simp at h32; omega)
      omega
    have := M_inj (xor_lt (xor_lt hx (bit_lt a)) b1) (xor_lt (xor_lt hy (bit_lt b)) b2) ih
    rw [Nat.xor_assoc, Nat.xor_assoc] at this
    exact this
  | [], _ :: _, hl, _, _, _, _, _, _ => by simp at hl
  | _ :: _, [], hl, _, _, _, _, _, _ => by simp at hl

theorem window {A l m B : List Bool} (hl : l.length = m.length) (h32 : l.length ≤ 32) {x : Nat} (hx : x < 4294967296) (h : run x (A ++ (l ++ B)) = run x (A ++ (m ++ B))) : l = m := by
  rw [run_append, run_append, run_append, run_append] at h
  have hA := run_lt A x hx
  have h1 := run_inj B (run_lt l _ hA) (run_lt m _ hA) h
  have h2 := run_num hl h32 hA hA h1
  have h3 := congrArg (run x A ^^^ ·) h2
  have h4 : num l = num m := by simpa [← Nat.xor_assoc] using h3
  exact num_inj hl h4

/-! Bits of bytes -/

def bits8 (c : Nat) : List Bool := (List.range 8).map c.testBit
def bits (p : List Int) : List Bool := p.flatMap fun c => bits8 c.toNat

theorem num_bits : ∀ (n c : Nat), c < 2 ^ n → num ((List.range n).map c.testBit) = c
  | 0, c, h => by simp at h; subst h; rfl
  | n + 1, c, h => by
    rw [List.range_succ_eq_map, List.map_cons, List.map_map]
    have e : (c.testBit ∘ Nat.succ) = (c / 2).testBit := by funext i; show c.testBit (i + 1) = _; rw [Nat.testBit_succ]
    show (c.testBit 0).toNat ^^^ 2 * num _ = c
    rw [e, num_bits n (c / 2) (by rw [Nat.pow_succ] at h; omega), Nat.testBit_zero]
    apply Nat.eq_of_testBit_eq
    intro i
    rw [Nat.testBit_xor]
    cases i with
    | zero =>
      have hc : c % 2 = 0 ∨ c % 2 = 1 := by omega
      rcases hc with hc | hc <;> simp [hc]
    | succ i =>
      rw [Nat.testBit_succ, Nat.testBit_succ, Nat.testBit_succ, Nat.mul_div_cancel_left _ (by decide)]
      have : (decide (c % 2 = 1)).toNat / 2 = 0 := by cases decide (c % 2 = 1) <;> rfl
      rw [this]; simp

def itM : Nat → Nat → Nat
  | 0, x => x
  | n + 1, x => itM n (M x)

theorem run_val : ∀ (l : List Bool), l.length ≤ 32 → ∀ x, run x l = itM l.length (x ^^^ num l)
  | [], _, x => by simp [run, num, itM]
  | b :: l, h, x => by
    show run (M (x ^^^ b.toNat)) l = itM l.length (M (x ^^^ (b.toNat ^^^ 2 * num l)))
    rw [run_val l (by simp at h; omega), ← Nat.xor_assoc, M_xor]

theorem M8_run {x c : Nat} (hc : c < 256) : M8 (x ^^^ c) = run x (bits8 c) := by
  rw [run_val _ (by simp [bits8]), bits8, num_bits 8 c hc]
  rfl

theorem crc_run : ∀ (p : List Int) (x : Nat), Bt p → crc x p = run x (bits p)
  | [], _, _ => rfl
  | c :: p, x, h => by
    have hc := h c (by simp)
    show crc (M8 (x ^^^ c.toNat)) p = run x (bits8 c.toNat ++ bits p)
    rw [crc_run p _ (fun y hy => h y (by simp [hy])), M8_run (by omega), run_append]

theorem bits_length : ∀ (p : List Int), (bits p).length = 8 * p.length
  | [] => rfl
  | c :: p => by
    show (bits8 c.toNat ++ bits p).length = _
    rw [List.length_append, bits_length p, List.length_cons]
    simp [bits8]; omega

def bitAt (p : List Int) (i : Nat) : Bool := (p.getD (i / 8) 0).toNat.testBit (i % 8)

theorem bits_get : ∀ (p : List Int) (i : Nat), i < 8 * p.length → (bits p)[i]? = some (bitAt p i)
  | [], i, h => by simp at h
  | c :: p, i, h => by
    show (bits8 c.toNat ++ bits p)[i]? = _
    have hl : (bits8 c.toNat).length = 8 := by simp [bits8]
    by_cases h8 : i < 8
    · rw [List.getElem?_append_left (by omega)]
      unfold bits8 bitAt
      rw [List.getElem?_map, List.getElem?_range h8, show i / 8 = 0 by omega, show i % 8 = i by omega]
      rfl
    · rw [List.getElem?_append_right (by omega), hl, bits_get p (i - 8) (by rw [List.length_cons] at h; omega)]
      unfold bitAt
      rw [show i / 8 = (i - 8) / 8 + 1 by omega, show i % 8 = (i - 8) % 8 by omega]
      rfl

theorem told {p q : List Int} {at_ : Nat} (hl : q.length = p.length) (hp : Bt p) (hq : Bt q) (hsame : ∀ i, i < 8 * p.length → (i < at_ ∨ at_ + 32 ≤ i) → bitAt q i = bitAt p i) {x : Nat} (hx : x < 4294967296) (h : crc x q = crc x p) :
    ∀ i, i < 8 * p.length → bitAt q i = bitAt p i := by
  rw [crc_run q x hq, crc_run p x hp] at h
  have hget : ∀ i, (bits q)[i]? = (bits p)[i]? ∨ (at_ ≤ i ∧ i < at_ + 32) := fun i => by
    by_cases hi : i < 8 * p.length
    · rw [bits_get q i (by omega), bits_get p i hi]
      by_cases hw : i < at_ ∨ at_ + 32 ≤ i
      · left; rw [hsame i hi hw]
      · right; omega
    · left
      rw [List.getElem?_eq_none (by rw [bits_length]; omega), List.getElem?_eq_none (by rw [bits_length]; omega)]
  have hA : (bits q).take at_ = (bits p).take at_ := by
    apply List.ext_getElem?
    intro i
    rw [List.getElem?_take, List.getElem?_take]
    split
    · rcases hget i with h | h
      · exact h
      · omega
    · rfl
  have hB : (bits q).drop (at_ + 32) = (bits p).drop (at_ + 32) := by
    apply List.ext_getElem?
    intro i
    rw [List.getElem?_drop, List.getElem?_drop]
    rcases hget (at_ + 32 + i) with h | h
    · exact h
    · omega
  have hs : ∀ l : List Bool, l = l.take at_ ++ ((l.drop at_).take 32 ++ l.drop (at_ + 32)) := fun l => by
    rw [← List.drop_drop, List.take_append_drop, List.take_append_drop]
  rw [hs (bits q), hs (bits p), hA, hB] at h
  have hw := window (by simp only [List.length_take, List.length_drop, bits_length, hl]) (by simp; omega) hx h
  have hall : bits q = bits p := by rw [hs (bits q), hs (bits p), hA, hB, hw]
  intro i hi
  have := bits_get q i (by omega)
  rw [hall, bits_get p i hi] at this
  exact (Option.some.inj this).symm

theorem alike {p q : List Int} (hl : q.length = p.length) (hp : Bt p) (hq : Bt q) (h : ∀ i, i < 8 * p.length → bitAt q i = bitAt p i) (x : Nat) : crc x q = crc x p := by
  rw [crc_run q x hq, crc_run p x hp]
  congr 1
  apply List.ext_getElem?
  intro i
  by_cases hi : i < 8 * p.length
  · rw [bits_get q i (by omega), bits_get p i hi, h i hi]
  · rw [List.getElem?_eq_none (by rw [bits_length]; omega), List.getElem?_eq_none (by rw [bits_length]; omega)]

/-! The bits that are turned -/

def hit (mask at_ n k : Nat) : Bool := mask.testBit k && decide (at_ + k < 8 * n)
def qs (p : List Int) (mask at_ : Nat) : Nat → List Int
  | 0 => p
  | k + 1 => if hit mask at_ p.length k then (qs p mask at_ k).set ((at_ + k) / 8) (((((qs p mask at_ k).getD ((at_ + k) / 8) 0).toNat ^^^ 2 ^ ((at_ + k) % 8) : Nat) : Int)) else qs p mask at_ k
def ts (p : List Int) (mask at_ : Nat) : Nat → Bool
  | 0 => false
  | k + 1 => cond (hit mask at_ p.length k) true (ts p mask at_ k)

theorem qs_length (p : List Int) (mask at_ : Nat) : ∀ k, (qs p mask at_ k).length = p.length
  | 0 => rfl
  | k + 1 => by
    unfold qs
    split
    · rw [List.length_set, qs_length p mask at_ k]
    · exact qs_length p mask at_ k

theorem pow_lt8 {r : Nat} (h : r < 8) : 2 ^ r < 256 := by
  have : 2 ^ r ≤ 2 ^ 7 := Nat.pow_le_pow_right (by decide) (by omega)
  omega

theorem qs_bt {p : List Int} (hp : Bt p) (mask at_ : Nat) : ∀ k, Bt (qs p mask at_ k)
  | 0 => hp
  | k + 1 => by
    have ih := qs_bt hp mask at_ k
    unfold qs
    split
    · refine ih.set _ ⟨by omega, ?_⟩
      have := ih.get ((at_ + k) / 8)
      have h := Nat.xor_lt_two_pow (n := 8) (x := ((qs p mask at_ k).getD ((at_ + k) / 8) 0).toNat) (y := 2 ^ ((at_ + k) % 8)) (by omega) (pow_lt8 (by omega))
      omega
    · exact ih

theorem qs_bit {p : List Int} (hp : Bt p) (mask at_ : Nat) : ∀ (k i : Nat), i < 8 * p.length → bitAt (qs p mask at_ k) i = ((bitAt p i) ^^ (decide (at_ ≤ i) && decide (i < at_ + k) && mask.testBit (i - at_)))
  | 0, i, hi => by
    show bitAt p i = _
    by_cases h : at_ ≤ i
    · rw [deF (p := i < at_ + 0) (by omega)]; simp
    · rw [deF h]; simp
  | k + 1, i, hi => by
    have ih := qs_bit hp mask at_ k i hi
    have hl := qs_length p mask at_ k
    unfold qs
    by_cases hh : hit mask at_ p.length k
    · rw [if_pos hh]
      unfold hit at hh
      simp only [Bool.and_eq_true, decide_eq_true_eq] at hh
      by_cases hb : i / 8 = (at_ + k) / 8
      · have e1 : bitAt ((qs p mask at_ k).set ((at_ + k) / 8) (((((qs p mask at_ k).getD ((at_ + k) / 8) 0).toNat ^^^ 2 ^ ((at_ + k) % 8) : Nat) : Int))) i = ((bitAt (qs p mask at_ k) i) ^^ decide ((at_ + k) % 8 = i % 8)) := by
          unfold bitAt
          rw [hb, List.getD, List.getElem?_set_self (by omega), Option.getD_some, Int.toNat_natCast, Nat.testBit_xor, Nat.testBit_two_pow]
        rw [e1, ih]
        by_cases hk : i = at_ + k
        · subst hk
          rw [deT rfl, deT (p := at_ ≤ at_ + k) (by omega), deF (p := at_ + k < at_ + k) (by omega), deT (p := at_ + k < at_ + (k + 1)) (by omega), Nat.add_sub_cancel_left, hh.1]
          simp
        · rw [deF (p := (at_ + k) % 8 = i % 8) (by omega)]
          have e2 : decide (i < at_ + (k + 1)) = decide (i < at_ + k) := by
            by_cases h2 : i < at_ + k
            · rw [deT h2, deT (by omega)]
            · rw [deF h2, deF (by omega)]
          rw [e2]; simp
      · have e1 : bitAt ((qs p mask at_ k).set ((at_ + k) / 8) (((((qs p mask at_ k).getD ((at_ + k) / 8) 0).toNat ^^^ 2 ^ ((at_ + k) % 8) : Nat) : Int))) i = bitAt (qs p mask at_ k) i := by
          unfold bitAt
          rw [List.getD, List.getElem?_set_ne (by omega)]
          rfl
        rw [e1, ih]
        have e2 : decide (i < at_ + (k + 1)) = decide (i < at_ + k) := by
          by_cases h2 : i < at_ + k
          · rw [deT h2, deT (by omega)]
          · rw [deF h2, deF (by omega)]
        rw [e2]
    · rw [if_neg hh, ih]
      unfold hit at hh
      by_cases hk : i = at_ + k
      · subst hk
        rw [deT hi, Bool.and_true] at hh
        have hh' : mask.testBit k = false := by simpa using hh
        rw [Nat.add_sub_cancel_left, hh']; simp
      · have e2 : decide (i < at_ + (k + 1)) = decide (i < at_ + k) := by
          by_cases h2 : i < at_ + k
          · rw [deT h2, deT (by omega)]
          · rw [deF h2, deF (by omega)]
        rw [e2]

theorem ts_true {p : List Int} {mask at_ : Nat} : ∀ {k : Nat}, ts p mask at_ k = true → ∃ j, j < k ∧ mask.testBit j = true ∧ at_ + j < 8 * p.length
  | 0, h => by cases h
  | k + 1, h => by
    unfold ts at h
    cases hh : hit mask at_ p.length k with
    | true =>
      unfold hit at hh
      simp only [Bool.and_eq_true, decide_eq_true_eq] at hh
      exact ⟨k, by omega, hh.1, hh.2⟩
    | false =>
      rw [hh, cond_false] at h
      obtain ⟨j, h1, h2⟩ := ts_true h
      exact ⟨j, by omega, h2⟩
theorem ts_false {p : List Int} {mask at_ : Nat} : ∀ {k : Nat}, ts p mask at_ k = false → qs p mask at_ k = p
  | 0, _ => rfl
  | k + 1, h => by
    unfold ts at h
    cases hh : hit mask at_ p.length k with
    | true => rw [hh] at h; cases h
    | false =>
      rw [hh, cond_false] at h
      unfold qs
      rw [if_neg (by rw [hh]; decide)]
      exact ts_false h

theorem burst {p : List Int} (hp : Bt p) (mask at_ : Nat) {x : Nat} (hx : x < 4294967296) : crc x (qs p mask at_ 32) = crc x p ↔ ts p mask at_ 32 = false := by
  have hb := qs_bit hp mask at_ 32
  constructor
  · intro h
    have hall := told (at_ := at_) (qs_length p mask at_ 32) hp (qs_bt hp mask at_ 32) (fun i hi hw => by
      rw [hb i hi]
      rcases hw with hw | hw
      · rw [deF (p := at_ ≤ i) (by omega)]; simp
      · rw [deF (p := i < at_ + 32) (by omega)]; simp) hx h
    cases ht : ts p mask at_ 32 with
    | false => rfl
    | true =>
      obtain ⟨j, h1, h2, h3⟩ := ts_true ht
      have := hall (at_ + j) h3
      rw [hb (at_ + j) h3, deT (p := at_ ≤ at_ + j) (by omega), deT (p := at_ + j < at_ + 32) (by omega), Nat.add_sub_cancel_left, h2] at this
      cases hc : bitAt p (at_ + j) <;> rw [hc] at this <;> cases this
  · intro h
    rw [ts_false h]

end Sha
end Go.Rf.W
