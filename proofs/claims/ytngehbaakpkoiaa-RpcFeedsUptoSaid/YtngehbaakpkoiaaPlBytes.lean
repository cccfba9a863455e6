/-
  Numbers in bytes, the highest first.
-/
import Derived.Test.YtngehbaakpkoiaaPlBase
set_option linter.unusedVariables false
namespace Go.Rf.W
open Go Go.Rf

/-- A number's last so many bytes. -/
def be : Nat → Nat → List Int
  | 0, _ => []
  | k + 1, n => be k (n / 256) ++ [((n % 256 : Nat) : Int)]

/-- The number of bytes, behind another one. -/
def valA (a : Nat) : List Int → Nat
  | [] => a
  | c :: l => valA (a * 256 + c.toNat) l
def val (l : List Int) : Nat := valA 0 l

@[simp] theorem be_length : ∀ k n, (be k n).length = k
  | 0, _ => rfl
  | k + 1, n => by simp [be, be_length k]

theorem be_bytes : ∀ (k n : Nat), ∀ x ∈ be k n, 0 ≤ x ∧ x < 256
  | 0, _, x, h => by cases h
  | k + 1, n, x, h => by
    simp only [be, List.mem_append, List.mem_singleton] at h
    rcases h with h | h
    · exact be_bytes k _ x h
    · omega

theorem valA_append (a : Nat) (l : List Int) : ∀ (m : List Int), valA a (l ++ m) = valA (valA a l) m := by
  induction l generalizing a with
  | nil => intro m; rfl
  | cons c l ih => intro m; exact ih _ m

theorem valA_be : ∀ (k n a : Nat), n < 256 ^ k → valA a (be k n) = a * 256 ^ k + n
  | 0, n, a, h => by simp at h; simp [be, valA, h]
  | k + 1, n, a, h => by
    rw [be, valA_append, valA_be k (n / 256) a (by rw [Nat.pow_succ] at h; omega)]
    simp only [valA, Int.toNat_natCast]
    rw [Nat.pow_succ, Nat.add_mul, ← Nat.mul_assoc]
    omega

theorem val_be {k n : Nat} (h : n < 256 ^ k) : val (be k n) = n := by
  unfold val
  rw [valA_be k n 0 h]
  omega

theorem valA_lt : ∀ (l : List Int) (a k : Nat), (∀ x ∈ l, 0 ≤ x ∧ x < 256) → a < 256 ^ k → valA a l < 256 ^ (k + l.length)
  | [], a, k, _, h => h
  | c :: l, a, k, hb, h => by
    have hc := hb c (by simp)
    have := valA_lt l (a * 256 + c.toNat) (k + 1) (fun x hx => hb x (by simp [hx])) (by rw [Nat.pow_succ]; omega)
    rw [List.length_cons, show k + (l.length + 1) = k + 1 + l.length by omega]
    exact this

theorem val_lt {l : List Int} (hb : ∀ x ∈ l, 0 ≤ x ∧ x < 256) {k : Nat} (hl : l.length ≤ k) : val l < 256 ^ k := by
  have := valA_lt l 0 0 hb (by omega)
  rw [Nat.zero_add] at this
  exact Nat.lt_of_lt_of_le this (Nat.pow_le_pow_right (by omega) hl)

theorem be_valA : ∀ (l : List Int) (a : Nat), (∀ x ∈ l, 0 ≤ x ∧ x < 256) → be l.length (valA a l) = l := by
  intro l
  generalize hn : l.length = n
  induction n generalizing l with
  | zero => intro a _; rw [List.length_eq_zero_iff.1 hn]; rfl
  | succ n ih =>
    intro a hb
    obtain ⟨m, c, e⟩ : ∃ m c, l = m ++ [c] := by
      refine ⟨l.dropLast, l.getLast (fun h => by rw [h] at hn; cases hn), ?_⟩
      exact (List.dropLast_concat_getLast _).symm
    subst e
    have hc := hb c (by simp)
    have hm : m.length = n := by simp at hn; exact hn
    rw [valA_append]
    simp only [valA, be]
    have e1 : (valA a m * 256 + c.toNat) / 256 = valA a m := by omega
    have e2 : (((valA a m * 256 + c.toNat) % 256 : Nat) : Int) = c := by omega
    rw [e1, e2, ih m hm a fun x hx => hb x (by simp [hx])]

theorem be_val {l : List Int} {k : Nat} (hb : ∀ x ∈ l, 0 ≤ x ∧ x < 256) (hl : l.length = k) : be k (val l) = l := by
  subst hl; exact be_valA l 0 hb

theorem or_add {a c : Nat} (h : c < 256) : (a * 256) ||| c = a * 256 + c := by
  have := Nat.two_pow_add_eq_or_of_lt (i := 8) (b := c) h a
  rw [show (2 : Nat) ^ 8 = 256 from rfl, Nat.mul_comm] at this
  exact this.symm

/-- One more byte. -/
theorem step64 {a : Nat} {c : Int} (ha : a < 72057594037927936) (hc : 0 ≤ c ∧ c < 256) : orF .u64 (shlF .u64 (a : Int) 8) (wrapF .u64 c) = ((a * 256 + c.toNat : Nat) : Int) := by
  have h1 : shlF .u64 (a : Int) 8 = ((a * 256 : Nat) : Int) := shlF_nat .u64 (a := a) (n := 8) (by decide) (by rw [two_pow_topA]; show a * 256 < 18446744073709551616; omega)
  have h2 : wrapF .u64 c = ((c.toNat : Nat) : Int) := by rw [wrapF_u64 (by omega) (by omega)]; omega
  rw [h1, h2, orF_nat .u64 (by rw [two_pow_topA]; show a * 256 < 18446744073709551616; omega) (by rw [two_pow_topA]; show c.toNat < 18446744073709551616; omega), or_add (by omega)]

theorem low8 (n : Nat) : wrapF .u8 (n : Int) = ((n % 256 : Nat) : Int) := by simp only [wrapF]; omega
theorem shr8 (n : Nat) : shrF .u64 (n : Int) 8 = ((n / 256 : Nat) : Int) := shrF_nat .u64 (a := n) (n := 8) (by decide)

theorem be4 (n : Nat) : be 4 n = [((n / 256 / 256 / 256 % 256 : Nat) : Int), ((n / 256 / 256 % 256 : Nat) : Int), ((n / 256 % 256 : Nat) : Int), ((n % 256 : Nat) : Int)] := by
  simp [be]

theorem be_add (k m n : Nat) : be (k + m) n = be k (n / 256 ^ m) ++ be m n := by
  induction m generalizing n with
  | zero => simp [be]
  | succ m ih =>
    rw [show k + (m + 1) = (k + m) + 1 by omega, be, ih, be, List.append_assoc, Nat.div_div_eq_div_mul, Nat.pow_succ, Nat.mul_comm 256]

end Go.Rf.W
