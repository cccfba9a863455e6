/-
  Inodes: what is to be set.
-/
import Derived.Test.YtcehhkdpdehjhaaPlIno
set_option linter.unusedVariables false
set_option maxRecDepth 10000
namespace Go.Rf.W
open Go Go.Rf

/-- Is a bit set? the program's way, the document's way. -/
theorem has_all : ∀ n : Nat, n < 256 → ∀ b ∈ ([1, 2, 4, 8, 16, 32, 64, 128] : List Int), granaryref12_has ((n : Int), b) = some (!(decide (andF .i64 (n : Int) b = 0))) := by decide +kernel

theorem has_eq {s : Int} (h0 : ¬ s < 0) (h1 : ¬ 255 < s) {b : Int} (hb : b ∈ ([1, 2, 4, 8, 16, 32, 64, 128] : List Int)) : granaryref12_has (s, b) = some (!(decide (andF .i64 s b = 0))) := by
  obtain ⟨n, rfl⟩ : ∃ n : Nat, s = n := ⟨s.toNat, by omega⟩
  exact has_all n (by omega) b hb

theorem bits0 : ∀ b ∈ ([1, 2, 4, 8, 16, 32, 64, 128] : List Int), decide (andF .i64 0 b = 0) = true := by decide +kernel

def bit (s b : Int) : Bool := !(decide (andF .i64 s b = 0))
theorem bit0 {b : Int} (hb : b ∈ ([1, 2, 4, 8, 16, 32, 64, 128] : List Int)) : bit 0 b = false := by unfold bit; rw [bits0 b hb]; rfl
theorem has_bit {s : Int} (h0 : ¬ s < 0) (h1 : ¬ 255 < s) {b : Int} (hb : b ∈ ([1, 2, 4, 8, 16, 32, 64, 128] : List Int)) : granaryref12_has (s, b) = some (bit s b) := has_eq h0 h1 hb
theorem wrong1_bit (a b c : Int) : inode_wrong_1 (a, b, c) = some (bit c a && bit c b, c) := by
  unfold inode_wrong_1 bit
  dsimp only
  cases decide (andF .i64 c a = 0) <;> rfl
theorem apply1_bit (a c : Int) : inode_Apply_1 (a, c) = some (bit c a, c) := rfl

/-- May that not be set? -/
def badA (x3 s smode ssize : Int) : Bool := (bit s 16 && bit s 64) || ((bit s 32 && bit s 128) || ((bit s 1 && decide ((4095 : Int) < smode)) || (bit s 8 && (decide ((1048576 : Int) < ssize) || !(decide (x3 = (1 : Int)))))))

theorem wrong_ok {x1 x2 x3 x4 x5 x6 x7 x8 x9 x10 x11 x12 x13 : Int} {x14 : List UInt8} {s smode suid sgid ssize satime smtime : Int} (h0 : ¬ s < 0) (h1 : ¬ 255 < s) :
    inode_wrong (x1, x2, x3, x4, x5, x6, x7, x8, x9, x10, x11, x12, x13, x14, s, smode, suid, sgid, ssize, satime, smtime) = some (badA x3 s smode ssize) := by
  unfold inode_wrong badA
  dsimp only
  rw [deF h0, deF h1, wrong1_bit, cond_false, cond_false, Option.bind_some]
  dsimp only
  rw [wrong1_bit, Option.bind_some]
  dsimp only
  rw [show (!(decide (andF .i64 s 1 = 0))) = bit s 1 from rfl, show (!(decide (andF .i64 s 8 = 0))) = bit s 8 from rfl]
  generalize bit s 16 = c16
  generalize bit s 64 = c64
  generalize bit s 32 = c32
  generalize bit s 128 = c128
  generalize bit s 1 = c1
  generalize bit s 8 = c8
  generalize decide ((4095 : Int) < smode) = d1
  generalize decide ((1048576 : Int) < ssize) = d2
  generalize decide (x3 = (1 : Int)) = d3
  cases c16 <;> cases c64 <;> cases c32 <;> cases c128 <;> cases c1 <;> cases c8 <;> cases d1 <;> cases d2 <;> cases d3 <;> rfl

theorem apply_form {x1 x2 x3 x4 x5 x6 x7 x8 x9 x10 x11 x12 x13 : Int} {x14 : List UInt8} {s smode suid sgid ssize satime smtime now : Int}
    (he : inode_Check (x1, x2, x3, x4, x5, x6, x7, x8, x9, x10, x11, x12, x13, x14) = some 0)
    (hb : inode_wrong (x1, x2, x3, x4, x5, x6, x7, x8, x9, x10, x11, x12, x13, x14, s, smode, suid, sgid, ssize, satime, smtime) = some false) (hs : ¬ s = 0) :
    inode_Apply (x1, x2, x3, x4, x5, x6, x7, x8, x9, x10, x11, x12, x13, x14, s, smode, suid, sgid, ssize, satime, smtime, now) =
    some (x1, x2, x3, cond (bit s 1) smode x4, x5, cond (bit s 2) suid x6, cond (bit s 4) sgid x7, cond (bit s 8 && !(decide (ssize = x8))) ssize x8, x9,
      cond (bit s 16) satime (cond (bit s 64) now x10), cond (bit s 32) smtime (cond (bit s 128) now (cond (bit s 8 && !(decide (ssize = x8))) now x11)), now, x13, x14, bit s 8 && !(decide (ssize = x8)), 0) := by
  unfold inode_Apply
  try dsimp only
  rw [he, Option.bind_some, deS, Bool.not_true, cond_false, hb, Option.bind_some, cond_false, deF hs, cond_false]
  rw [apply1_bit, Option.bind_some]
  try dsimp only
  rw [cond_some, Option.bind_some, apply1_bit, Option.bind_some]
  try dsimp only
  rw [cond_some, Option.bind_some, apply1_bit, Option.bind_some]
  try dsimp only
  rw [cond_some, Option.bind_some, apply1_bit, Option.bind_some]
  try dsimp only
  have e8 : (cond (bit s 8) (some (!(decide (ssize = x8)), s)) (some (false, s))) = some (bit s 8 && !(decide (ssize = x8)), s) := by cases bit s 8 <;> rfl
  rw [e8, Option.bind_some]
  try dsimp only
  rw [cond_some, Option.bind_some, apply1_bit, Option.bind_some]
  try dsimp only
  rw [apply1_bit, Option.bind_some]
  try dsimp only
  rw [cond_some (bit s 64), Option.bind_some]
  try dsimp only
  have e16 : (cond (bit s 16) (some (satime, s)) (some (cond (bit s 64) now x10, s))) = some (cond (bit s 16) satime (cond (bit s 64) now x10), s) := by cases bit s 16 <;> rfl
  rw [e16, Option.bind_some]
  try dsimp only
  rw [apply1_bit, Option.bind_some]
  try dsimp only
  rw [apply1_bit, Option.bind_some]
  try dsimp only
  rw [cond_some (bit s 128), Option.bind_some]
  try dsimp only
  have e32 : ∀ q : Int, (cond (bit s 32) (some (smtime, s)) (some (q, s))) = some (cond (bit s 32) smtime q, s) := fun q => by cases bit s 32 <;> rfl
  rw [e32, Option.bind_some]
  try dsimp only
  rw [fst_cond, snd_cond]

theorem ref_form {x1 x2 x3 x4 x5 x6 x7 x8 x9 x10 x11 x12 x13 : Int} {x14 : List UInt8} {s smode suid sgid ssize satime smtime now : Int}
    (he : granaryref12_Check (x1, x2, x3, x4, x5, x6, x7, x8, x9, x10, x11, x12, x13, x14) = some 0) (h0 : ¬ s < 0) (h1 : ¬ 255 < s) :
    granaryref12_Apply (x1, x2, x3, x4, x5, x6, x7, x8, x9, x10, x11, x12, x13, x14, s, smode, suid, sgid, ssize, satime, smtime, now) =
    cond (badA x3 s smode ssize) (some (0, 0, 0, 0, 0, 0, 0, 0, 0, 0, 0, 0, 0, [], false, 122))
    (some (x1, x2, x3, cond (bit s 1) smode x4, x5, cond (bit s 2) suid x6, cond (bit s 4) sgid x7, cond (bit s 8) ssize x8, x9,
      cond (bit s 64) now (cond (bit s 16) satime x10), cond (bit s 128) now (cond (bit s 32) smtime (cond (bit s 8 && !(decide (ssize = x8))) now x11)), cond (!(decide (s = 0))) now x12, x13, x14, bit s 8 && !(decide (ssize = x8)), 0)) := by
  have hh := fun b hb => has_bit h0 h1 (b := b) hb
  unfold granaryref12_Apply
  dsimp only
  rw [he, Option.bind_some, deS, Bool.not_true, cond_false, deF h0, deF h1, cond_false, Option.bind_some, cond_false]
  rw [hh 16 (by decide), hh 64 (by decide), hh 32 (by decide), hh 128 (by decide), hh 1 (by decide), hh 8 (by decide), hh 2 (by decide), hh 4 (by decide)]
  simp only [Option.bind_some]
  have ev : (cond (bit s 16) (cond (bit s 64) (some true) (cond (bit s 32) (some (bit s 128)) (some false))) (cond (bit s 32) (some (bit s 128)) (some false))) =
      some ((bit s 16 && bit s 64) || (bit s 32 && bit s 128)) := by
    cases bit s 16 <;> cases bit s 64 <;> cases bit s 32 <;> rfl
  have ew : (cond (bit s 1) (cond (decide ((4095 : Int) < smode)) (some true) (cond (bit s 8) (cond (decide ((1048576 : Int) < ssize)) (some true) (some (!(decide (x3 = (1 : Int)))))) (some false)))
      (cond (bit s 8) (cond (decide ((1048576 : Int) < ssize)) (some true) (some (!(decide (x3 = (1 : Int)))))) (some false))) =
      some ((bit s 1 && decide ((4095 : Int) < smode)) || (bit s 8 && (decide ((1048576 : Int) < ssize) || !(decide (x3 = (1 : Int)))))) := by
    cases bit s 1 <;> cases bit s 8 <;> cases decide ((4095 : Int) < smode) <;> cases decide ((1048576 : Int) < ssize) <;> rfl
  rw [ev, ew]
  simp only [Option.bind_some, cond_some]
  have e8 : (cond (bit s 8) (!(decide (ssize = x8))) false) = (bit s 8 && !(decide (ssize = x8))) := by cases bit s 8 <;> rfl
  rw [e8]
  congr 1
  unfold badA
  generalize (bit s 16 && bit s 64) = v1
  generalize (bit s 32 && bit s 128) = v2
  generalize ((bit s 1 && decide ((4095 : Int) < smode)) || (bit s 8 && (decide ((1048576 : Int) < ssize) || !(decide (x3 = (1 : Int)))))) = v3
  cases v1 <;> cases v2 <;> cases v3 <;> rfl

theorem ino_apply_eq (x : Int × Int × Int × Int × Int × Int × Int × Int × Int × Int × Int × Int × Int × (List UInt8) × Int × Int × Int × Int × Int × Int × Int × Int) :
    ∃ r, inode_Apply x = some r ∧ granaryref12_Apply x = some r := by
  obtain ⟨x1, x2, x3, x4, x5, x6, x7, x8, x9, x10, x11, x12, x13, x14, s, smode, suid, sgid, ssize, satime, smtime, now⟩ := x
  obtain ⟨e, he⟩ := ino_check_total (x1, x2, x3, x4, x5, x6, x7, x8, x9, x10, x11, x12, x13, x14)
  have he2 := he
  rw [ino_check_eq] at he2
  by_cases h : e = 0
  · subst h
    by_cases h0 : s < 0
    · refine ⟨(0, 0, 0, 0, 0, 0, 0, 0, 0, 0, 0, 0, 0, [], false, 122), ?_, ?_⟩
      rotate_left
      · unfold granaryref12_Apply
        dsimp only
        rw [he2, Option.bind_some, deS, Bool.not_true, cond_false, deT h0, cond_true, Option.bind_some, cond_true, Option.bind_some, cond_true]
      · unfold inode_Apply inode_wrong
        dsimp only
        rw [he, Option.bind_some, deS, Bool.not_true, cond_false, deT h0, cond_true, Option.bind_some, Option.bind_some, cond_true]
    by_cases h1 : 255 < s
    · refine ⟨(0, 0, 0, 0, 0, 0, 0, 0, 0, 0, 0, 0, 0, [], false, 122), ?_, ?_⟩
      rotate_left
      · unfold granaryref12_Apply
        dsimp only
        rw [he2, Option.bind_some, deS, Bool.not_true, cond_false, deF h0, deT h1, cond_false, Option.bind_some, cond_true, Option.bind_some, cond_true]
      · unfold inode_Apply inode_wrong
        dsimp only
        rw [he, Option.bind_some, deS, Bool.not_true, cond_false, deF h0, deT h1, cond_true, cond_false, Option.bind_some, Option.bind_some, cond_true]
    rw [ref_form he2 h0 h1]
    have hb := wrong_ok (x1 := x1) (x2 := x2) (x3 := x3) (x4 := x4) (x5 := x5) (x6 := x6) (x7 := x7) (x8 := x8) (x9 := x9) (x10 := x10) (x11 := x11) (x12 := x12) (x13 := x13) (x14 := x14) (smode := smode) (suid := suid) (sgid := sgid) (ssize := ssize) (satime := satime) (smtime := smtime) h0 h1
    cases hbad : badA x3 s smode ssize with
    | true =>
      rw [hbad] at hb
      refine ⟨_, ?_, rfl⟩
      unfold inode_Apply
      dsimp only
      rw [he, Option.bind_some, deS, Bool.not_true, cond_false, hb, Option.bind_some, cond_true]
    | false =>
      rw [hbad] at hb
      by_cases hs : s = 0
      · subst hs
        refine ⟨_, ?_, rfl⟩
        unfold inode_Apply
        dsimp only
        rw [he, Option.bind_some, deS, Bool.not_true, cond_false, hb, Option.bind_some, cond_false, cond_true]
        rw [bit0 (b := 1) (by decide), bit0 (b := 2) (by decide), bit0 (b := 4) (by decide), bit0 (b := 8) (by decide), bit0 (b := 16) (by decide), bit0 (b := 64) (by decide), bit0 (b := 32) (by decide), bit0 (b := 128) (by decide)]
        rfl
      · rw [apply_form he hb hs]
        refine ⟨_, rfl, ?_⟩
        rw [cond_false, deF hs]
        have q1 : cond (bit s 64) now (cond (bit s 16) satime x10) = cond (bit s 16) satime (cond (bit s 64) now x10) := by
          unfold badA at hbad
          cases h16 : bit s 16 <;> cases h64 : bit s 64 <;> first | rfl | (rw [h16, h64] at hbad; cases hbad)
        have q2 : ∀ q : Int, cond (bit s 128) now (cond (bit s 32) smtime q) = cond (bit s 32) smtime (cond (bit s 128) now q) := fun q => by
          unfold badA at hbad
          cases h32 : bit s 32 <;> cases h128 : bit s 128 <;> first | rfl | (rw [h32, h128] at hbad; generalize (bit s 16 && bit s 64) = z at hbad; cases z <;> cases hbad)
        have q3 : cond (bit s 8) ssize x8 = cond (bit s 8 && !(decide (ssize = x8))) ssize x8 := by
          by_cases hz : ssize = x8
          · subst hz; rw [deS]; cases bit s 8 <;> rfl
          · rw [deF hz]; cases bit s 8 <;> rfl
        rw [q1, q2, q3, Bool.not_false, cond_true]
  · refine ⟨(0, 0, 0, 0, 0, 0, 0, 0, 0, 0, 0, 0, 0, [], false, e), ?_, ?_⟩
    rotate_left
    · unfold granaryref12_Apply
      dsimp only
      rw [he2, Option.bind_some, deF h, Bool.not_false, cond_true]
    · unfold inode_Apply
      dsimp only
      rw [he, Option.bind_some, deF h, Bool.not_false, cond_true]

end Go.Rf.W
