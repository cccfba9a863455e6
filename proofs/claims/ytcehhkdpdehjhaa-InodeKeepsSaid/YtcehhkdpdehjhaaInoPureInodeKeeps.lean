/-
  What changes stays right; nothing else changes: the plain law.
-/
import Derived.Test.YtcehhkdpdehjhaaInoFInodeKeeps
import Derived.Test.YtcehhkdpdehjhaaPlInoKeep
import Derived.Test.YtcehhkdpdehjhaaRfC
set_option linter.unusedVariables false
set_option maxRecDepth 10000
namespace Go.Rf.W.Pure
open Go Go.Rf Go.Rf.W

theorem num_eq (x : Int) : granarylaw12_num x = some x := rfl

theorem knew {x0 x1 x2 mode uid gid now : Int} (hm : ∃ m : Nat, mode = m ∧ m < 4294967296) : ∃ r, inode_New (x0, x1, x2, mode, uid, gid, now) = some r ∧ (r.2.2.2.2.2.2.2.2.2.2.2 = 0 →
    inode_Check (r.1, r.2.1, r.2.2.1, r.2.2.2.1, r.2.2.2.2.1, r.2.2.2.2.2.1, r.2.2.2.2.2.2.1, (0 : Int), (0 : Int), r.2.2.2.2.2.2.2.1, r.2.2.2.2.2.2.2.2.1, r.2.2.2.2.2.2.2.2.2.1, (0 : Int), r.2.2.2.2.2.2.2.2.2.2.1) = some 0) := by
  obtain ⟨m, rfl, hm⟩ := hm
  have hn : ¬ ((120 : Int) = 0) := by omega
  by_cases h0 : x0 = 0
  · refine ⟨(0, 0, 0, 0, 0, 0, 0, 0, 0, 0, [], 120), ?_, fun h => absurd h hn⟩
    unfold inode_New
    dsimp only
    rw [deT h0, cond_true, Option.bind_some, cond_true]
  by_cases h1 : x1 = 0
  · refine ⟨(0, 0, 0, 0, 0, 0, 0, 0, 0, 0, [], 120), ?_, fun h => absurd h hn⟩
    unfold inode_New
    dsimp only
    rw [deF h0, cond_false, deT h1, Option.bind_some, cond_true]
  have h4 : ¬ (4095 : Int) < andF .u32 (m : Int) 4095 := by
    rw [and4095 hm]
    have := Int.tmod_lt_of_pos (m : Int) (show (0 : Int) < 4096 by omega)
    omega
  have hw0 : (0 : Int) = wrapF .u64 (((([] : List UInt8).length : Nat)) : Int) := by rfl
  by_cases h2 : x2 = 2
  · refine ⟨(x0, x1, x2, andF .u32 (m : Int) 4095, 2, uid, gid, now, now, now, [], 0), ?_, fun _ => ?_⟩
    · unfold inode_New
      dsimp only
      rw [deF h0, cond_false, deF h1, Option.bind_some, cond_false, deT h2, cond_true, Option.bind_some]
    · exact (check_right x0 x1 x2 (andF .u32 (m : Int) 4095) 2 uid gid 0 0 now now now 0 []).2 ⟨h0, h1, .inr (.inl h2), h4, by omega, by simp, by omega, fun _ => rfl, fun h => by omega⟩
  by_cases h3 : x2 = 1
  · refine ⟨(x0, x1, x2, andF .u32 (m : Int) 4095, 1, uid, gid, now, now, now, [], 0), ?_, fun _ => ?_⟩
    · unfold inode_New
      dsimp only
      rw [deF h0, cond_false, deF h1, Option.bind_some, cond_false, deF h2, cond_false, deT h3, Bool.not_true, cond_false, Option.bind_some]
    · exact (check_right x0 x1 x2 (andF .u32 (m : Int) 4095) 1 uid gid 0 0 now now now 0 []).2 ⟨h0, h1, .inl h3, h4, by omega, by simp, by omega, fun _ => rfl, fun h => by omega⟩
  · refine ⟨(0, 0, 0, 0, 0, 0, 0, 0, 0, 0, [], 120), ?_, fun h => absurd h hn⟩
    unfold inode_New
    dsimp only
    rw [deF h0, cond_false, deF h1, Option.bind_some, cond_false, deF h2, cond_false, deF h3, Bool.not_false, cond_true, Option.bind_some]

theorem klinked {x0 x1 x2 x3 x4 x5 x6 x7 x8 x9 x10 x11 x12 : Int} {x13 : List UInt8} {by_ now : Int} (h4 : 0 ≤ x4 ∧ x4 < 4294967296) (hb : -9223372036854775808 ≤ by_ ∧ by_ < 9223372036854775808) (hR : Right x0 x1 x2 x3 x4 x7 x8 x12 x13) (he : inode_Check (x0, x1, x2, x3, x4, x5, x6, x7, x8, x9, x10, x11, x12, x13) = some 0) :
    (∃ l, inode_Linked (x0, x1, x2, x3, x4, x5, x6, x7, x8, x9, x10, x11, x12, x13, by_, now) = some (x0, x1, x2, x3, l, x5, x6, x7, x8, x9, x10, now, x12, x13, 0) ∧ inode_Check (x0, x1, x2, x3, l, x5, x6, x7, x8, x9, x10, now, x12, x13) = some 0) ∨
    (∃ r, inode_Linked (x0, x1, x2, x3, x4, x5, x6, x7, x8, x9, x10, x11, x12, x13, by_, now) = some r ∧ ¬ r.2.2.2.2.2.2.2.2.2.2.2.2.2.2 = 0) := by
  have hlk : x4 ≤ 32000 := Int.not_lt.1 hR.lk
  have w1 : wrapF .i64 x4 = x4 := w64 (by omega) (by omega)
  have w2 : wrapF .i64 ((0 : Int) - x4) = 0 - x4 := w64 (by omega) (by omega)
  have w3 : wrapF .i64 ((32000 : Int) - x4) = 32000 - x4 := w64 (by omega) (by omega)
  have hn : ¬ ((123 : Int) = 0) := by omega
  by_cases c1 : by_ < 0 - x4
  · refine .inr ⟨(0, 0, 0, 0, 0, 0, 0, 0, 0, 0, 0, 0, 0, [], 123), ?_, hn⟩
    unfold inode_Linked
    dsimp only
    rw [he, Option.bind_some, deS, Bool.not_true, cond_false, w1, w2, w3, deT c1, cond_true, Option.bind_some, cond_true]
  by_cases c2 : 32000 - x4 < by_
  · refine .inr ⟨(0, 0, 0, 0, 0, 0, 0, 0, 0, 0, 0, 0, 0, [], 123), ?_, hn⟩
    unfold inode_Linked
    dsimp only
    rw [he, Option.bind_some, deS, Bool.not_true, cond_false, w1, w2, w3, deF c1, cond_false, deT c2, Option.bind_some, cond_true]
  · have w4 : wrapF .i64 (x4 + by_) = x4 + by_ := w64 (by omega) (by omega)
    have w5 : wrapF .u32 (x4 + by_) = x4 + by_ := wrapF_u32 (by omega) (by omega)
    refine .inl ⟨x4 + by_, ?_, (check_right _ _ _ _ _ _ _ _ _ _ _ _ _ _).2 ⟨hR.a0, hR.a1, hR.kd, hR.md, by omega, hR.ln, hR.sz, hR.pl, hR.sy⟩⟩
    unfold inode_Linked
    dsimp only
    rw [he, Option.bind_some, deS, Bool.not_true, cond_false, w1, w2, w3, deF c1, cond_false, deF c2, Option.bind_some, cond_false, w4, w5]

theorem ksized {x0 x1 x2 x3 x4 x5 x6 x7 x8 x9 x10 x11 x12 : Int} {x13 : List UInt8} {size now : Int} (hR : Right x0 x1 x2 x3 x4 x7 x8 x12 x13) (he : inode_Check (x0, x1, x2, x3, x4, x5, x6, x7, x8, x9, x10, x11, x12, x13) = some 0) :
    (∃ l, inode_Sized (x0, x1, x2, x3, x4, x5, x6, x7, x8, x9, x10, x11, x12, x13, size, now) = some (x0, x1, x2, x3, x4, x5, x6, l, x8, x9, now, now, x12, x13, 0) ∧ inode_Check (x0, x1, x2, x3, x4, x5, x6, l, x8, x9, now, now, x12, x13) = some 0) ∨
    (∃ r, inode_Sized (x0, x1, x2, x3, x4, x5, x6, x7, x8, x9, x10, x11, x12, x13, size, now) = some r ∧ ¬ r.2.2.2.2.2.2.2.2.2.2.2.2.2.2 = 0) := by
  have hn : ¬ ((122 : Int) = 0) := by omega
  by_cases c1 : x2 = 1
  · by_cases c2 : 1048576 < size
    · refine .inr ⟨(0, 0, 0, 0, 0, 0, 0, 0, 0, 0, 0, 0, 0, [], 122), ?_, hn⟩
      unfold inode_Sized
      dsimp only
      rw [he, Option.bind_some, deS, Bool.not_true, cond_false, deT c1, Bool.not_true, cond_false, deT c2, Option.bind_some, cond_true]
    · refine .inl ⟨size, ?_, (check_right _ _ _ _ _ _ _ _ _ _ _ _ _ _).2 ⟨hR.a0, hR.a1, hR.kd, hR.md, hR.lk, hR.ln, c2, hR.pl, fun h => by omega⟩⟩
      unfold inode_Sized
      dsimp only
      rw [he, Option.bind_some, deS, Bool.not_true, cond_false, deT c1, Bool.not_true, cond_false, deF c2, Option.bind_some, cond_false]
  · refine .inr ⟨(0, 0, 0, 0, 0, 0, 0, 0, 0, 0, 0, 0, 0, [], 122), ?_, hn⟩
    unfold inode_Sized
    dsimp only
    rw [he, Option.bind_some, deS, Bool.not_true, cond_false, deF c1, Bool.not_false, cond_true, Option.bind_some, cond_true]

theorem kapply {x0 x1 x2 x3 x4 x5 x6 x7 x8 x9 x10 x11 x12 : Int} {x13 : List UInt8} {s smode suid sgid ssize satime smtime now : Int} (hR : Right x0 x1 x2 x3 x4 x7 x8 x12 x13) (he : inode_Check (x0, x1, x2, x3, x4, x5, x6, x7, x8, x9, x10, x11, x12, x13) = some 0) :
    (∃ m u g z a b c q, inode_Apply (x0, x1, x2, x3, x4, x5, x6, x7, x8, x9, x10, x11, x12, x13, s, smode, suid, sgid, ssize, satime, smtime, now) = some (x0, x1, x2, m, x4, u, g, z, x8, a, b, c, x12, x13, q, 0) ∧ inode_Check (x0, x1, x2, m, x4, u, g, z, x8, a, b, c, x12, x13) = some 0 ∧
      ((s = 0 ∧ m = x3 ∧ u = x5 ∧ g = x6 ∧ z = x7 ∧ a = x9 ∧ b = x10 ∧ c = x11) ∨ ¬ s = 0)) ∨
    (∃ r, inode_Apply (x0, x1, x2, x3, x4, x5, x6, x7, x8, x9, x10, x11, x12, x13, s, smode, suid, sgid, ssize, satime, smtime, now) = some r ∧ ¬ r.2.2.2.2.2.2.2.2.2.2.2.2.2.2.2 = 0) := by
  have hn : ¬ ((122 : Int) = 0) := by omega
  by_cases h0 : s < 0
  · refine .inr ⟨(0, 0, 0, 0, 0, 0, 0, 0, 0, 0, 0, 0, 0, [], false, 122), ?_, hn⟩
    unfold inode_Apply inode_wrong
    dsimp only
    rw [he, Option.bind_some, deS, Bool.not_true, cond_false, deT h0, cond_true, Option.bind_some, Option.bind_some, cond_true]
  by_cases h1 : 255 < s
  · refine .inr ⟨(0, 0, 0, 0, 0, 0, 0, 0, 0, 0, 0, 0, 0, [], false, 122), ?_, hn⟩
    unfold inode_Apply inode_wrong
    dsimp only
    rw [he, Option.bind_some, deS, Bool.not_true, cond_false, deF h0, cond_false, deT h1, cond_true, Option.bind_some, Option.bind_some, cond_true]
  have hw := wrong_ok (x1 := x0) (x2 := x1) (x3 := x2) (x4 := x3) (x5 := x4) (x6 := x5) (x7 := x6) (x8 := x7) (x9 := x8) (x10 := x9) (x11 := x10) (x12 := x11) (x13 := x12) (x14 := x13) (smode := smode) (suid := suid) (sgid := sgid) (ssize := ssize) (satime := satime) (smtime := smtime) h0 h1
  by_cases hb : badA x2 s smode ssize = true
  · refine .inr ⟨(0, 0, 0, 0, 0, 0, 0, 0, 0, 0, 0, 0, 0, [], false, 122), ?_, hn⟩
    rw [hb] at hw
    unfold inode_Apply
    dsimp only
    rw [he, Option.bind_some, deS, Bool.not_true, cond_false, hw, Option.bind_some, cond_true]
  · have hbf : badA x2 s smode ssize = false := by simpa using hb
    rw [hbf] at hw
    by_cases hs : s = 0
    · subst hs
      refine .inl ⟨x3, x5, x6, x7, x9, x10, x11, false, ?_, he, .inl ⟨rfl, rfl, rfl, rfl, rfl, rfl, rfl, rfl⟩⟩
      unfold inode_Apply
      dsimp only
      rw [he, Option.bind_some, deS, Bool.not_true, cond_false, hw, Option.bind_some, cond_false]
      try rw [deS]
      rfl
    · refine .inl ⟨_, _, _, _, _, _, _, _, apply_form he hw hs, ?_, .inr hs⟩
      have e1 : bit s 1 = true → ¬ 4095 < smode := by
        intro h h'
        unfold badA at hbf
        rw [h, deT h'] at hbf
        simp at hbf
      have e8 : bit s 8 = true → ¬ 1048576 < ssize ∧ x2 = 1 := by
        intro h
        unfold badA at hbf
        rw [h] at hbf
        simp only [Bool.true_and, Bool.or_eq_false_iff, decide_eq_false_iff_not, Bool.not_eq_false', decide_eq_true_eq] at hbf
        exact ⟨hbf.2.2.2.1, hbf.2.2.2.2⟩
      refine (check_right _ _ _ _ _ _ _ _ _ _ _ _ _ _).2 ⟨hR.a0, hR.a1, hR.kd, ?_, hR.lk, hR.ln, ?_, hR.pl, ?_⟩
      · cases hb1 : bit s 1
        · exact hR.md
        · exact e1 hb1
      · cases hb8 : bit s 8
        · exact hR.sz
        · cases hz : decide (ssize = x7)
          · exact (e8 hb8).1
          · exact hR.sz
      · intro h5
        have := hR.sy h5
        cases hb8 : bit s 8
        · exact this
        · exact absurd (e8 hb8).2 (by omega)

set_option maxHeartbeats 8000000 in
theorem inodeKeeps (x : EKs [(.pair (.pair (.int .u64) (.pair (.int .u32) (.pair (.int .i64) (.pair (.int .u32) (.pair (.int .u32) (.pair (.int .u32) (.pair (.int .u32) (.pair (.int .u64) (.pair (.int .u64) (.pair (.int .u64) (.pair (.int .u64) (.pair (.int .u64) (.pair (.int .u64) (.pair .str .unit)))))))))))))) (.pair (.int .i64) (.pair (.int .i64) (.pair (.int .u64) (.pair (.int .u64) .unit))))), (.pair (.int .i64) (.pair (.int .u32) (.pair (.int .u32) (.pair (.int .u32) (.pair (.int .u64) (.pair (.int .u64) (.pair (.int .u64) .unit)))))))]) (hw : wfs [(.pair (.pair (.int .u64) (.pair (.int .u32) (.pair (.int .i64) (.pair (.int .u32) (.pair (.int .u32) (.pair (.int .u32) (.pair (.int .u32) (.pair (.int .u64) (.pair (.int .u64) (.pair (.int .u64) (.pair (.int .u64) (.pair (.int .u64) (.pair (.int .u64) (.pair .str .unit)))))))))))))) (.pair (.int .i64) (.pair (.int .i64) (.pair (.int .u64) (.pair (.int .u64) .unit))))), (.pair (.int .i64) (.pair (.int .u32) (.pair (.int .u32) (.pair (.int .u32) (.pair (.int .u64) (.pair (.int .u64) (.pair (.int .u64) .unit)))))))] x) : ∃ N, granarylaw12_InodeKeeps N (x.1.1.1, x.1.1.2.1, x.1.1.2.2.1, x.1.1.2.2.2.1, x.1.1.2.2.2.2.1, x.1.1.2.2.2.2.2.1, x.1.1.2.2.2.2.2.2.1, x.1.1.2.2.2.2.2.2.2.1, x.1.1.2.2.2.2.2.2.2.2.1, x.1.1.2.2.2.2.2.2.2.2.2.1, x.1.1.2.2.2.2.2.2.2.2.2.2.1, x.1.1.2.2.2.2.2.2.2.2.2.2.2.1, x.1.1.2.2.2.2.2.2.2.2.2.2.2.2.1, x.1.1.2.2.2.2.2.2.2.2.2.2.2.2.2.1, x.1.2.1, x.1.2.2.1, x.1.2.2.2.1, x.1.2.2.2.2.1, x.2.1, x.2.2.1, x.2.2.2.1, x.2.2.2.2.1, x.2.2.2.2.2.1, x.2.2.2.2.2.2.1, x.2.2.2.2.2.2.2.1) = some true := by
  obtain ⟨⟨⟨x0, x1, x2, x3, x4, x5, x6, x7, x8, x9, x10, x11, x12, x13, u⟩, which, by_, size, now, u'⟩, s, smode, suid, sgid, ssize, satime, smtime, u''⟩ := x
  change Int at x0 x1 x2 x3 x4 x5 x6 x7 x8 x9 x10 x11 x12 which by_ size now s smode suid sgid ssize satime smtime
  change List UInt8 at x13
  have h4 : 0 ≤ x4 ∧ x4 < 4294967296 := by
    have h : EK.wf (.int .u32) x4 := hw.1.1.2.2.2.2.1
    obtain ⟨m, h1, h2⟩ := wf_u32 h
    omega
  have hb := wf_i64 (n := by_) hw.1.2.2.1
  have hm : ∃ m : Nat, smode = m ∧ m < 4294967296 := wf_u32 (n := smode) hw.2.2.1
  refine ⟨100, ?_⟩
  show granarylaw12_InodeKeeps 100 (x0, x1, x2, x3, x4, x5, x6, x7, x8, x9, x10, x11, x12, x13, which, by_, size, now, s, smode, suid, sgid, ssize, satime, smtime) = some true
  unfold granarylaw12_InodeKeeps
  dsimp only
  rw [ino_live]
  rw [show granarylaw12_long (x0, x1, x2, x3, x4, x5, x6, x7, x8, x9, x10, x11, x12, x13) = some (decide ((2000 : Int) < ((x13.length : Nat) : Int))) from rfl, Option.bind_some]
  cases decide ((2000 : Int) < ((x13.length : Nat) : Int))
  rotate_left
  · rfl
  rw [cond_false]
  obtain ⟨e, he⟩ := ino_check_total (x0, x1, x2, x3, x4, x5, x6, x7, x8, x9, x10, x11, x12, x13)
  rw [he, Option.bind_some, num_eq, Option.bind_some]
  by_cases h0 : e = 0
  rotate_left
  · rw [deF h0]; rfl
  subst h0
  rw [deS, Bool.not_true, Option.bind_some, cond_false]
  have hR := (check_right x0 x1 x2 x3 x4 x5 x6 x7 x8 x9 x10 x11 x12 x13).1 he
  obtain ⟨a, b, c, ht⟩ : ∃ a b c, inode_Touch 100 (x0, x1, x2, x3, x4, x5, x6, x7, x8, x9, x10, x11, x12, x13, which, now) = some (x0, x1, x2, x3, x4, x5, x6, x7, x8, a, b, c, x12, x13) := ⟨_, _, _, rfl⟩
  have hct : inode_Check (x0, x1, x2, x3, x4, x5, x6, x7, x8, a, b, c, x12, x13) = some 0 := (check_right _ _ _ _ _ _ _ _ _ _ _ _ _ _).2 hR
  obtain ⟨rn, n1, n2⟩ := knew (x0 := x0) (x1 := x1) (x2 := x2) (mode := smode) (uid := suid) (gid := sgid) (now := now) hm
  have apS : ∀ (p0 p1 p2 p3 p4 p5 p6 p7 p8 p9 p10 p11 p12 : Int) (p13 : List UInt8) (q9 q10 q11 : Int), granarylaw12_apart (p0, p1, p2, p3, p4, p5, p6, p7, p8, p9, p10, p11, p12, p13, p0, p1, p2, p3, p4, p5, p6, p7, p8, q9, q10, q11, p12, p13) = some true := by
    intros
    simp only [granarylaw12_apart, decide_true, Bool.and_self]
  rw [ht, Option.bind_some]
  dsimp only
  have wS : ∀ (p0 p1 p2 p3 p4 p5 p6 p7 p8 p9 p10 p11 p12 : Int) (p13 : List UInt8) (q0 q1 q2 q3 q4 q5 q6 q7 q8 q9 q10 q11 q12 : Int) (q13 : List UInt8), granarylaw12_with (p0, p1, p2, p3, p4, p5, p6, p7, p8, p9, p10, p11, p12, p13, q0, q1, q2, q3, q4, q5, q6, q7, q8, q9, q10, q11, q12, q13) = some (p0, p1, p2, q3, q4, q5, q6, q7, p8, p9, p10, p11, p12, p13) := fun _ _ _ _ _ _ _ _ _ _ _ _ _ _ _ _ _ _ _ _ _ _ _ _ _ _ _ _ => rfl
  have hN : (rn.2.2.2.2.2.2.2.2.2.2.2 = 0 ∧ inode_Check (rn.1, rn.2.1, rn.2.2.1, rn.2.2.2.1, rn.2.2.2.2.1, rn.2.2.2.2.2.1, rn.2.2.2.2.2.2.1, (0 : Int), (0 : Int), rn.2.2.2.2.2.2.2.1, rn.2.2.2.2.2.2.2.2.1, rn.2.2.2.2.2.2.2.2.2.1, (0 : Int), rn.2.2.2.2.2.2.2.2.2.2.1) = some 0) ∨ ¬ rn.2.2.2.2.2.2.2.2.2.2.2 = 0 := by
    by_cases hz : rn.2.2.2.2.2.2.2.2.2.2.2 = 0
    · exact .inl ⟨hz, n2 hz⟩
    · exact .inr hz
  rcases kapply (s := s) (smode := smode) (suid := suid) (sgid := sgid) (ssize := ssize) (satime := satime) (smtime := smtime) (now := now) hR he with ⟨ym, yu, yg, yz, ya, yb, yc, yq, y1, y2, ⟨hs, rfl, rfl, rfl, rfl, rfl, rfl, rfl⟩ | hs⟩ | ⟨ry, y1, y2⟩
  all_goals rcases klinked (by_ := by_) (now := now) h4 hb hR he with ⟨ll, l1, l2⟩ | ⟨rl, l1, l2⟩
  all_goals rcases ksized (size := size) (now := now) hR he with ⟨zz, z1, z2⟩ | ⟨rz, z1, z2⟩
  all_goals rcases hN with ⟨hz, hz2⟩ | hz
  all_goals rw [y1, Option.bind_some, l1, Option.bind_some, z1, Option.bind_some, n1, Option.bind_some, hct, Option.bind_some, num_eq, Option.bind_some, deS, Bool.not_true, cond_false, apS, Option.bind_some, Bool.not_true, Option.bind_some, cond_false]
  all_goals try dsimp only
  all_goals repeat (first | rw [Option.bind_some] | rw [num_eq] | rw [deF y2] | rw [deF l2] | rw [deF z2] | rw [deT hz] | rw [deF hz] | rw [deT hs] | rw [deF hs] | rw [deS] | rw [apS] | rw [wS] | rw [hz2] | rw [y2] | rw [l2] | rw [z2] | rw [Bool.not_true] | rw [Bool.not_false] | rw [Bool.and_self] | rw [cond_true] | rw [cond_false] | dsimp only)

end Go.Rf.W.Pure
