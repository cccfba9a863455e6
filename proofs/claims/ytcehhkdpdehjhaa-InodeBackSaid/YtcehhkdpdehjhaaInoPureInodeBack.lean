/-
  There and back, of inodes and handles: the plain law.
-/
import Derived.Test.YtcehhkdpdehjhaaInoFInodeBack
import Derived.Test.YtcehhkdpdehjhaaPlInoBack
import Derived.Test.YtcehhkdpdehjhaaRfC
set_option linter.unusedVariables false
set_option maxRecDepth 10000
namespace Go.Rf.W.Pure
open Go Go.Rf Go.Rf.W

theorem ino_live3 : granarylaw12_live 3000 () = some true := by decide +kernel

theorem bind_inl {β : Type} {o : Option (Unit ⊕ Unit)} {f : Unit ⊕ Unit → Option β} (h : o = some (.inl ())) : Option.bind o f = f (.inl ()) := by rw [h]; rfl

theorem numI (n : Int) : granarylaw12_num n = some n := rfl

theorem inodeBack (x : EKs [(.pair (.int .u64) (.pair (.int .u32) (.pair (.int .i64) (.pair (.int .u32) (.pair (.int .u32) (.pair (.int .u32) (.pair (.int .u32) (.pair (.int .u64) (.pair (.int .u64) (.pair (.int .u64) (.pair (.int .u64) (.pair (.int .u64) (.pair (.int .u64) (.pair .str .unit)))))))))))))), (.pair (.int .u32) (.pair (.int .u64) (.pair (.int .u32) .unit))), (.sl (.int .u8))]) (hw : wfs [(.pair (.int .u64) (.pair (.int .u32) (.pair (.int .i64) (.pair (.int .u32) (.pair (.int .u32) (.pair (.int .u32) (.pair (.int .u32) (.pair (.int .u64) (.pair (.int .u64) (.pair (.int .u64) (.pair (.int .u64) (.pair (.int .u64) (.pair (.int .u64) (.pair .str .unit)))))))))))))), (.pair (.int .u32) (.pair (.int .u64) (.pair (.int .u32) .unit))), (.sl (.int .u8))] x) : ∃ N, granarylaw12_InodeBack N (x.1.1, x.1.2.1, x.1.2.2.1, x.1.2.2.2.1, x.1.2.2.2.2.1, x.1.2.2.2.2.2.1, x.1.2.2.2.2.2.2.1, x.1.2.2.2.2.2.2.2.1, x.1.2.2.2.2.2.2.2.2.1, x.1.2.2.2.2.2.2.2.2.2.1, x.1.2.2.2.2.2.2.2.2.2.2.1, x.1.2.2.2.2.2.2.2.2.2.2.2.1, x.1.2.2.2.2.2.2.2.2.2.2.2.2.1, x.1.2.2.2.2.2.2.2.2.2.2.2.2.2.1, x.2.1.1, x.2.1.2.1, x.2.1.2.2.1, x.2.2) = some true := by
  refine ⟨3000, ?_⟩
  obtain ⟨⟨x1, x2, x3, x4, x5, x6, x7, x8, x9, x10, x11, x12, x13, x14, xu⟩, ⟨fs, num, gen, hu⟩, l⟩ := x
  have h1 := wf_u64 hw.1.1
  have h2 := wf_u32 hw.1.2.1
  have h4 := wf_u32 hw.1.2.2.2.1
  have h5 := wf_u32 hw.1.2.2.2.2.1
  have h6 := wf_u32 hw.1.2.2.2.2.2.1
  have h7 := wf_u32 hw.1.2.2.2.2.2.2.1
  have h8 := wf_u64 hw.1.2.2.2.2.2.2.2.1
  have h9 := wf_u64 hw.1.2.2.2.2.2.2.2.2.1
  have h10 := wf_u64 hw.1.2.2.2.2.2.2.2.2.2.1
  have h11 := wf_u64 hw.1.2.2.2.2.2.2.2.2.2.2.1
  have h12 := wf_u64 hw.1.2.2.2.2.2.2.2.2.2.2.2.1
  have h13 := wf_u64 hw.1.2.2.2.2.2.2.2.2.2.2.2.2.1
  have g1 := wf_u32 hw.2.1.1
  have g2 := wf_u64 hw.2.1.2.1
  have g3 := wf_u32 hw.2.1.2.2.1
  have hb := wf_bytes hw.2.2
  change ∃ m : Nat, x1 = m ∧ _ at h1
  change ∃ m : Nat, x2 = m ∧ _ at h2
  change ∃ m : Nat, x4 = m ∧ _ at h4
  change ∃ m : Nat, x5 = m ∧ _ at h5
  change ∃ m : Nat, x6 = m ∧ _ at h6
  change ∃ m : Nat, x7 = m ∧ _ at h7
  change ∃ m : Nat, x8 = m ∧ _ at h8
  change ∃ m : Nat, x9 = m ∧ _ at h9
  change ∃ m : Nat, x10 = m ∧ _ at h10
  change ∃ m : Nat, x11 = m ∧ _ at h11
  change ∃ m : Nat, x12 = m ∧ _ at h12
  change ∃ m : Nat, x13 = m ∧ _ at h13
  change ∃ m : Nat, fs = m ∧ _ at g1
  change ∃ m : Nat, num = m ∧ _ at g2
  change ∃ m : Nat, gen = m ∧ _ at g3
  change ∀ x ∈ l, 0 ≤ x ∧ x < 256 at hb
  change List Int at l
  change List UInt8 at x14
  change Int at x3
  obtain ⟨x1, rfl, h1⟩ := h1
  obtain ⟨x2, rfl, h2⟩ := h2
  obtain ⟨x4, rfl, h4⟩ := h4
  obtain ⟨x5, rfl, h5⟩ := h5
  obtain ⟨x6, rfl, h6⟩ := h6
  obtain ⟨x7, rfl, h7⟩ := h7
  obtain ⟨x8, rfl, h8⟩ := h8
  obtain ⟨x9, rfl, h9⟩ := h9
  obtain ⟨x10, rfl, h10⟩ := h10
  obtain ⟨x11, rfl, h11⟩ := h11
  obtain ⟨x12, rfl, h12⟩ := h12
  obtain ⟨x13, rfl, h13⟩ := h13
  obtain ⟨fs, rfl, g1⟩ := g1
  obtain ⟨num, rfl, g2⟩ := g2
  obtain ⟨gen, rfl, g3⟩ := g3
  dsimp only
  unfold granarylaw12_InodeBack
  dsimp only
  rw [ino_live3, show granarylaw12_long ((x1 : Int), (x2 : Int), x3, (x4 : Int), (x5 : Int), (x6 : Int), (x7 : Int), (x8 : Int), (x9 : Int), (x10 : Int), (x11 : Int), (x12 : Int), (x13 : Int), x14) = some _ from rfl, Option.bind_some, cond_some, Option.bind_some]
  cases hc : cond (decide ((2000 : Int) < ((x14.length : Nat) : Int))) true (decide ((2000 : Int) < ((l.length : Nat) : Int))) with
  | true => rfl
  | false =>
    have hl : x14.length ≤ 2000 ∧ l.length ≤ 2000 := by
      cases h : decide ((2000 : Int) < ((x14.length : Nat) : Int)) with
      | true => rw [h] at hc; cases hc
      | false =>
        rw [h, cond_false] at hc
        have := of_decide_eq_false hc
        have := of_decide_eq_false h
        omega
    obtain ⟨hl1, hl2⟩ := hl
    have he := chk_ok ((x1 : Int), (x2 : Int), x3, (x4 : Int), (x5 : Int), (x6 : Int), (x7 : Int), (x8 : Int), (x9 : Int), (x10 : Int), (x11 : Int), (x12 : Int), (x13 : Int), x14)
    rw [cond_false, putI_ok (by omega) h2 h4 h5 h6 h7 hl1 he, Option.bind_some]
    try dsimp only
    rw [numI, Option.bind_some]
    refine (bind_inl ?_).trans ?_
    · by_cases h0 : chk ((x1 : Int), (x2 : Int), x3, (x4 : Int), (x5 : Int), (x6 : Int), (x7 : Int), (x8 : Int), (x9 : Int), (x10 : Int), (x11 : Int), (x12 : Int), (x13 : Int), x14) = 0
      · obtain ⟨hk, ht⟩ := chk_facts h0
        change x3 = 1 ∨ x3 = 2 ∨ x3 = 5 at hk
        change x14.length ≤ 255 at ht
        obtain ⟨k, rfl, hk2⟩ : ∃ k : Nat, x3 = k ∧ k < 6 := ⟨x3.toNat, by omega, by omega⟩
        have ek : ((k : Int) % 4294967296).toNat = k := by omega
        obtain ⟨q1, q2, q3⟩ := back_ino h1 h2 (by omega) h4 h5 h6 h7 h8 h9 h10 h11 h12 h13 ht h0
        rw [deT h0, Bool.not_true, cond_false, ek]
        dsimp only
        have hp : pad x14.length < 4 := by unfold pad; omega
        have h84 : Int.tmod (((84 + x14.length + pad x14.length : Nat) : Nat) : Int) 4 = 0 := by
          show (((84 + x14.length + pad x14.length) % 4 : Nat) : Int) = 0
          unfold pad
          omega
        rw [deS, cond_true, getI_ok (by omega) q2 (by omega), Option.bind_some, q1, q3]
        unfold withE
        dsimp only
        rw [numI, Option.bind_some, deT h84]
        simp only [decide_true, Bool.and_self, Bool.not_true, cond_false, Option.bind_some]
      · rw [deF h0, Bool.not_false, cond_true]
        dsimp only
        rw [deF h0, cond_false]
    dsimp only
    rw [fits1 (by omega), cond_true, getI_ok (by omega) hb (by omega), Option.bind_some]
    rw [numI, Option.bind_some]
    refine (bind_inl ?_).trans ?_
    · rcases GI_cases l with ⟨e, k1, k2⟩ | ⟨k1, k2, k3, k4, k5, k6, k7⟩
      · rw [k1]
        unfold zeroI
        dsimp only
        rw [deF k2, cond_false]
      · have hla := laid_again hb k3 k5 k6 k7
        have hch := chk_ok (inoOf l)
        rw [k2] at hch
        have hF12 := F4_lt hb 12
        have ek : ((F l 12 4 : Int) % 4294967296).toNat = F l 12 4 := by omega
        have hpi := putI_ok (N := 3000) (num := F l 0 8) (gen := F l 8 4) (k := (F l 12 4 : Int)) (mode := F l 16 4) (links := F l 20 4) (uid := F l 24 4) (gid := F l 28 4) (size := F l 32 8) (blocks := F l 40 8) (atime := F l 48 8) (mtime := F l 56 8) (ctime := F l 64 8) (root := F l 72 8) (t := toS ((l.drop 84).take (F l 80 4)))
          (by omega) (F4_lt hb 8) (F4_lt hb 16) (F4_lt hb 20) (F4_lt hb 24) (F4_lt hb 28) (by simp [toS]; omega) hch
        rw [ek, hla] at hpi
        rw [k1]
        unfold withE inoOf
        dsimp only
        rw [deS, cond_true, hpi, Option.bind_some, deS, Bool.not_true, cond_false]
        dsimp only
        rw [numI, Option.bind_some, deS, deS, Bool.not_true, cond_false, Option.bind_some]
        rfl
    dsimp only
    rw [putH_ok (by omega) g1 g3, Option.bind_some, numI, Option.bind_some]
    refine (bind_inl ?_).trans ?_
    · unfold PH
      by_cases n0 : num = 0
      · rw [deT n0]; rfl
      by_cases m0 : gen = 0
      · rw [deF n0, deT m0]; rfl
      obtain ⟨q1, q2⟩ := back_handle g1 g2 g3 n0 m0
      rw [deF n0, deF m0, Bool.or_self, cond_false]
      dsimp only
      rw [deS, cond_true, getH_ok (by omega) q2, Option.bind_some, q1]
      dsimp only
      rw [numI, Option.bind_some]
      simp only [decide_true, Bool.and_self, Bool.not_true, cond_false, Option.bind_some]
    dsimp only
    rw [cond_true, getH_ok (by omega) hb, Option.bind_some, numI, Option.bind_some]
    refine (bind_inl ?_).trans ?_
    · rcases GH_cases hb with k1 | ⟨k1, k2, k3, k4⟩
      · rw [k1]
        rfl
      · rw [k1]
        dsimp only
        rw [deS, cond_true, putH_ok (by omega) (F4_lt hb 4) (F4_lt hb 16), Option.bind_some]
        unfold PH
        rw [deF k2, deF k3, Bool.or_self, cond_false, k4]
        dsimp only
        rw [numI, Option.bind_some, deS, deS, Bool.not_true, cond_false, Option.bind_some]
        rfl
    rfl

end Go.Rf.W.Pure
