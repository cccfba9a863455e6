/-
  Inodes that are touched, linked, sized: what the program's functions and the document's have in common; what stays right.
-/
import Derived.Test.YtcehhkdpdehjhaaPlInoApply
set_option linter.unusedVariables false
set_option maxRecDepth 10000
namespace Go.Rf.W
open Go Go.Rf

/-- What makes an inode right. -/
structure Right (x0 x1 x2 x3 x4 x7 x8 x12 : Int) (x13 : List UInt8) : Prop where
  a0 : ¬ x0 = 0
  a1 : ¬ x1 = 0
  kd : x2 = 1 ∨ x2 = 2 ∨ x2 = 5
  md : ¬ 4095 < x3
  lk : ¬ 32000 < x4
  ln : ¬ (255 : Int) < ((x13.length : Nat) : Int)
  sz : ¬ 1048576 < x7
  pl : ¬ x2 = 5 → x13 = []
  sy : x2 = 5 → ¬ x13 = [] ∧ x7 = wrapF .u64 ((x13.length : Nat) : Int) ∧ x12 = 0 ∧ x8 = 0

def okB (b1 b2 b3 b4 b5 b6 b7 b8 b9 b10 b11 b12 b13 : Bool) : Bool := !b1 && (!b2 && ((b3 || (b4 || b5)) && (!b6 && (!b7 && (!b8 && (!b9 && (cond b5 (!b10 && (b11 && (b12 && b13))) b10)))))))

theorem check_okB (x0 x1 x2 x3 x4 x5 x6 x7 x8 x9 x10 x11 x12 : Int) (x13 : List UInt8) : inode_Check (x0, x1, x2, x3, x4, x5, x6, x7, x8, x9, x10, x11, x12, x13) = some 0 ↔ okB (decide (x0 = 0)) (decide (x1 = 0)) (decide (x2 = 1)) (decide (x2 = 2)) (decide (x2 = 5)) (decide (4095 < x3)) (decide (32000 < x4)) (decide ((255 : Int) < ((x13.length : Nat) : Int))) (decide (1048576 < x7)) (decide (x13 = [])) (decide (x7 = wrapF .u64 ((x13.length : Nat) : Int))) (decide (x12 = 0)) (decide (x8 = 0)) = true := by
  unfold inode_Check inode_kind
  dsimp only
  generalize decide (x0 = (0 : Int)) = b1
  generalize decide (x1 = (0 : Int)) = b2
  generalize decide (x2 = (1 : Int)) = b3
  generalize decide (x2 = (2 : Int)) = b4
  generalize decide (x2 = (5 : Int)) = b5
  generalize decide ((4095 : Int) < x3) = b6
  generalize decide ((32000 : Int) < x4) = b7
  generalize decide ((255 : Int) < ((x13.length : Nat) : Int)) = b8
  generalize decide ((1048576 : Int) < x7) = b9
  generalize decide (x13 = ([] : List UInt8)) = b10
  generalize (decide (x7 = (wrapF .u64 ((x13.length : Nat) : Int)))) = b11
  generalize (decide (x12 = (0 : Int))) = b12
  generalize decide (x8 = (0 : Int)) = b13
  clear x0 x1 x2 x3 x4 x5 x6 x7 x8 x9 x10 x11 x12 x13
  revert b1 b2 b3 b4 b5 b6 b7 b8 b9 b10 b11 b12 b13
  decide +kernel

theorem check_right (x0 x1 x2 x3 x4 x5 x6 x7 x8 x9 x10 x11 x12 : Int) (x13 : List UInt8) : inode_Check (x0, x1, x2, x3, x4, x5, x6, x7, x8, x9, x10, x11, x12, x13) = some 0 ↔ Right x0 x1 x2 x3 x4 x7 x8 x12 x13 := by
  rw [check_okB]
  unfold okB
  by_cases h5 : x2 = 5
  · simp only [h5, decide_true, cond_true, Bool.and_eq_true, Bool.not_eq_true', decide_eq_false_iff_not, decide_eq_true_eq, Bool.or_eq_true]
    constructor
    · rintro ⟨a0, a1, kd, md, lk, ln, sz, s1, s2, s3, s4⟩
      exact ⟨a0, a1, .inr (.inr rfl), md, lk, ln, sz, fun h => absurd rfl h, fun _ => ⟨s1, s2, s3, s4⟩⟩
    · rintro ⟨a0, a1, kd, md, lk, ln, sz, pl, sy⟩
      obtain ⟨s1, s2, s3, s4⟩ := sy rfl
      exact ⟨a0, a1, .inr (.inr trivial), md, lk, ln, sz, s1, s2, s3, s4⟩
  · simp only [h5, decide_false, cond_false, Bool.and_eq_true, Bool.not_eq_true', decide_eq_false_iff_not, decide_eq_true_eq, Bool.or_eq_true, Bool.or_false]
    constructor
    · rintro ⟨a0, a1, kd, md, lk, ln, sz, s1⟩
      exact ⟨a0, a1, by rcases kd with h | h; exact .inl h; exact .inr (.inl h), md, lk, ln, sz, fun _ => s1, fun h => absurd h h5⟩
    · rintro ⟨a0, a1, kd, md, lk, ln, sz, pl, sy⟩
      refine ⟨a0, a1, ?_, md, lk, ln, sz, pl h5⟩
      rcases kd with h | h | h
      · exact .inl h
      · exact .inr h
      · exact absurd h h5

theorem touch_eq (N : Nat) (x) : ∃ r, inode_Touch N x = some r ∧ granaryref12_Touch x = some r := by
  refine ⟨_, rfl, ?_⟩
  unfold granaryref12_Touch
  simp only [cond_some, Option.bind_some]

theorem sized_eq (x) : ∃ r, inode_Sized x = some r ∧ granaryref12_Sized x = some r := by
  have h : granaryref12_Sized x = inode_Sized x := by
    unfold granaryref12_Sized inode_Sized
    rw [ino_check_eq]
  rw [h]
  obtain ⟨e, he⟩ := ino_check_total (x.1, x.2.1, x.2.2.1, x.2.2.2.1, x.2.2.2.2.1, x.2.2.2.2.2.1, x.2.2.2.2.2.2.1, x.2.2.2.2.2.2.2.1, x.2.2.2.2.2.2.2.2.1, x.2.2.2.2.2.2.2.2.2.1, x.2.2.2.2.2.2.2.2.2.2.1, x.2.2.2.2.2.2.2.2.2.2.2.1, x.2.2.2.2.2.2.2.2.2.2.2.2.1, x.2.2.2.2.2.2.2.2.2.2.2.2.2.1)
  unfold inode_Sized
  rw [he, Option.bind_some]
  simp only [cond_some, Option.bind_some]
  exact ⟨_, rfl, rfl⟩

theorem w64 {n : Int} (h0 : -9223372036854775808 ≤ n) (h : n < 9223372036854775808) : wrapF .i64 n = n := wrapF_i64 h0 h

theorem linked_eq {x0 x1 x2 x3 x4 x5 x6 x7 x8 x9 x10 x11 x12 : Int} {x13 : List UInt8} {by_ now : Int} (h4 : 0 ≤ x4 ∧ x4 < 4294967296) (hb : -9223372036854775808 ≤ by_ ∧ by_ < 9223372036854775808) :
    ∃ r, inode_Linked (x0, x1, x2, x3, x4, x5, x6, x7, x8, x9, x10, x11, x12, x13, by_, now) = some r ∧ granaryref12_Linked (x0, x1, x2, x3, x4, x5, x6, x7, x8, x9, x10, x11, x12, x13, by_, now) = some r := by
  obtain ⟨e, he⟩ := ino_check_total (x0, x1, x2, x3, x4, x5, x6, x7, x8, x9, x10, x11, x12, x13)
  have he2 := he
  rw [ino_check_eq] at he2
  by_cases h : e = 0
  · subst h
    have hR := (check_right x0 x1 x2 x3 x4 x5 x6 x7 x8 x9 x10 x11 x12 x13).1 he
    have hlk : x4 ≤ 32000 := Int.not_lt.1 hR.lk
    have w1 : wrapF .i64 x4 = x4 := w64 (by omega) (by omega)
    have w2 : wrapF .i64 ((0 : Int) - x4) = 0 - x4 := w64 (by omega) (by omega)
    have w3 : wrapF .i64 ((32000 : Int) - x4) = 32000 - x4 := w64 (by omega) (by omega)
    unfold inode_Linked granaryref12_Linked
    dsimp only
    rw [he, Option.bind_some, he2, Option.bind_some, deS, Bool.not_true, cond_false, cond_false, w1, w2, w3]
    by_cases c1 : by_ < 0 - x4
    · rw [deT c1, cond_true, Option.bind_some, cond_true]
      refine ⟨_, rfl, ?_⟩
      by_cases d1 : by_ < -32000
      · rw [deT d1, cond_true, Option.bind_some, cond_true]
      · have w4 : wrapF .i64 (x4 + by_) = x4 + by_ := w64 (by omega) (by omega)
        rw [deF d1, cond_false, deF (show ¬ (32000 : Int) < by_ by omega), cond_false, w4, deT (show x4 + by_ < 0 by omega), cond_true, Option.bind_some, cond_true]
    · rw [deF c1, cond_false]
      by_cases c2 : 32000 - x4 < by_
      · rw [deT c2, Option.bind_some, cond_true]
        refine ⟨_, rfl, ?_⟩
        by_cases d2 : 32000 < by_
        · rw [deF (show ¬ by_ < -32000 by omega), cond_false, deT d2, cond_true, Option.bind_some, cond_true]
        · have w4 : wrapF .i64 (x4 + by_) = x4 + by_ := w64 (by omega) (by omega)
          rw [deF (show ¬ by_ < -32000 by omega), cond_false, deF d2, cond_false, w4, deF (show ¬ x4 + by_ < 0 by omega), cond_false, deT (show 32000 < x4 + by_ by omega), Option.bind_some, cond_true]
      · have w4 : wrapF .i64 (x4 + by_) = x4 + by_ := w64 (by omega) (by omega)
        rw [deF c2, Option.bind_some, cond_false]
        refine ⟨_, rfl, ?_⟩
        rw [deF (show ¬ by_ < -32000 by omega), cond_false, deF (show ¬ 32000 < by_ by omega), cond_false, w4, deF (show ¬ x4 + by_ < 0 by omega), cond_false, deF (show ¬ 32000 < x4 + by_ by omega), Option.bind_some, cond_false]
  · unfold inode_Linked granaryref12_Linked
    dsimp only
    rw [he, Option.bind_some, he2, Option.bind_some, deF h, Bool.not_false, cond_true, cond_true]
    exact ⟨_, rfl, rfl⟩

end Go.Rf.W
