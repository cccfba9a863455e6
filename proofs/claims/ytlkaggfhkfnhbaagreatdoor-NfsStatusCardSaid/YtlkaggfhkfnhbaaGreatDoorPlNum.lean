/-
  Numbers of the printed functions, where they are in bounds: as natural numbers.
-/
import Derived.Test.YtlkaggfhkfnhbaaGreatDoorRfA
set_option linter.unusedVariables false
set_option linter.unusedSimpArgs false
namespace Go.Rf
open Go

theorem wrapF_u8 {n : Int} (h0 : 0 ≤ n) (h : n < 256) : wrapF .u8 n = n := by simp only [wrapF]; omega
theorem wrapF_u16 {n : Int} (h0 : 0 ≤ n) (h : n < 65536) : wrapF .u16 n = n := by simp only [wrapF]; omega
theorem wrapF_u32 {n : Int} (h0 : 0 ≤ n) (h : n < 4294967296) : wrapF .u32 n = n := by simp only [wrapF]; omega
theorem wrapF_u64 {n : Int} (h0 : 0 ≤ n) (h : n < 18446744073709551616) : wrapF .u64 n = n := by simp only [wrapF]; omega
theorem wrapF_i64 {n : Int} (h0 : -9223372036854775808 ≤ n) (h : n < 9223372036854775808) : wrapF .i64 n = n := by
  simp only [ifF_i64]; split <;> omega
theorem wrapF_i32 {n : Int} (h0 : -2147483648 ≤ n) (h : n < 2147483648) : wrapF .i32 n = n := by
  simp only [ifF_i32]; split <;> omega

/-- How many numbers of a kind are not below zero, as a power. -/
def topA : IntKind → Nat
  | .u8 => 8 | .u16 => 16 | .u32 => 32 | .u64 => 64
  | .i8 => 7 | .i16 => 15 | .i32 => 31 | .i64 => 63

theorem two_pow_topA (k : IntKind) : 2 ^ topA k = (match k with
  | .u8 => 256 | .u16 => 65536 | .u32 => 4294967296 | .u64 => 18446744073709551616
  | .i8 => 128 | .i16 => 32768 | .i32 => 2147483648 | .i64 => 9223372036854775808) := by cases k <;> rfl

theorem wrapF_nat (k : IntKind) {n : Nat} (h : n < 2 ^ topA k) : wrapF k (n : Int) = n := by
  rw [two_pow_topA] at h
  cases k <;> simp only at h <;> (first | simp only [ifF_i8] | simp only [ifF_i16] | simp only [ifF_i32] | simp only [ifF_i64] | simp only [wrapF]) <;> (try split) <;> omega

theorem toU_nat (k : IntKind) {n : Nat} (h : n < 2 ^ topA k) : toU k (n : Int) = n := by
  rw [two_pow_topA] at h
  cases k <;> simp only at h <;> simp only [toU] <;> omega

theorem andF_nat (k : IntKind) {a b : Nat} (ha : a < 2 ^ topA k) (hb : b < 2 ^ topA k) : andF k (a : Int) (b : Int) = ((a &&& b : Nat) : Int) := by
  rw [andF_def]; unfold andG
  rw [toU_nat k ha, toU_nat k hb]
  exact wrapF_nat k (Nat.and_lt_two_pow _ hb)

theorem orF_nat (k : IntKind) {a b : Nat} (ha : a < 2 ^ topA k) (hb : b < 2 ^ topA k) : orF k (a : Int) (b : Int) = ((a ||| b : Nat) : Int) := by
  rw [orF_def]; unfold orG
  rw [toU_nat k ha, toU_nat k hb]
  exact wrapF_nat k (Nat.or_lt_two_pow ha hb)

theorem xorF_nat (k : IntKind) {a b : Nat} (ha : a < 2 ^ topA k) (hb : b < 2 ^ topA k) : xorF k (a : Int) (b : Int) = ((a ^^^ b : Nat) : Int) := by
  rw [xorF_def]; unfold xorG
  rw [toU_nat k ha, toU_nat k hb]
  exact wrapF_nat k (Nat.xor_lt_two_pow ha hb)

theorem shrF_nat (k : IntKind) {a n : Nat} (hn : n ≤ bitsA k) : shrF k (a : Int) (n : Int) = ((a / 2 ^ n : Nat) : Int) := by
  unfold shrF
  have : min ((n : Int).toNat) (bitsA k) = n := by simp; omega
  rw [this]
  show (a : Int).fdiv ((2 ^ n : Nat) : Int) = _
  rw [Int.fdiv_eq_ediv_of_nonneg _ (Int.natCast_nonneg _)]
  rfl

theorem shlF_nat (k : IntKind) {a n : Nat} (hn : n ≤ bitsA k) (h : a * 2 ^ n < 2 ^ topA k) : shlF k (a : Int) (n : Int) = ((a * 2 ^ n : Nat) : Int) := by
  unfold shlF
  have : min ((n : Int).toNat) (bitsA k) = n := by simp; omega
  rw [this]
  have e : (a : Int) * Int.ofNat (Nat.pow 2 n) = ((a * 2 ^ n : Nat) : Int) := by simp
  rw [e]
  exact wrapF_nat k h

end Go.Rf
