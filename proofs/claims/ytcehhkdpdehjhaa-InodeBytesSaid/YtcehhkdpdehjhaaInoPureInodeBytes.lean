/-
  Every inode, every bytes: the plain law.
-/
import Derived.Test.YtcehhkdpdehjhaaInoFInodeBytes
import Derived.Test.YtcehhkdpdehjhaaPlInoGet
import Derived.Test.YtcehhkdpdehjhaaRfC
set_option linter.unusedVariables false
set_option maxRecDepth 10000
namespace Go.Rf.W.Pure
open Go Go.Rf Go.Rf.W

theorem ino_live2 : granarylaw12_live 400 () = some true := by decide +kernel

theorem inodeBytes (x : EKs [(.pair (.int .u64) (.pair (.int .u32) (.pair (.int .i64) (.pair (.int .u32) (.pair (.int .u32) (.pair (.int .u32) (.pair (.int .u32) (.pair (.int .u64) (.pair (.int .u64) (.pair (.int .u64) (.pair (.int .u64) (.pair (.int .u64) (.pair (.int .u64) (.pair .str .unit)))))))))))))), (.sl (.int .u8))]) (hw : wfs [(.pair (.int .u64) (.pair (.int .u32) (.pair (.int .i64) (.pair (.int .u32) (.pair (.int .u32) (.pair (.int .u32) (.pair (.int .u32) (.pair (.int .u64) (.pair (.int .u64) (.pair (.int .u64) (.pair (.int .u64) (.pair (.int .u64) (.pair (.int .u64) (.pair .str .unit)))))))))))))), (.sl (.int .u8))] x) : ∃ N, granarylaw12_InodeBytes N (x.1.1, x.1.2.1, x.1.2.2.1, x.1.2.2.2.1, x.1.2.2.2.2.1, x.1.2.2.2.2.2.1, x.1.2.2.2.2.2.2.1, x.1.2.2.2.2.2.2.2.1, x.1.2.2.2.2.2.2.2.2.1, x.1.2.2.2.2.2.2.2.2.2.1, x.1.2.2.2.2.2.2.2.2.2.2.1, x.1.2.2.2.2.2.2.2.2.2.2.2.1, x.1.2.2.2.2.2.2.2.2.2.2.2.2.1, x.1.2.2.2.2.2.2.2.2.2.2.2.2.2.1, x.2) = some true := by
  refine ⟨400, ?_⟩
  obtain ⟨⟨x1, x2, x3, x4, x5, x6, x7, x8, x9, x10, x11, x12, x13, x14, xu⟩, l⟩ := x
  have h1 := wf_u64 hw.1.1
  have h2 := wf_u32 hw.1.2.1
  have h4 := wf_u32 hw.1.2.2.2.1
  have h5 := wf_u32 hw.1.2.2.2.2.1
  have h6 := wf_u32 hw.1.2.2.2.2.2.1
  have h7 := wf_u32 hw.1.2.2.2.2.2.2.1
  have h8 := wf_u64 hw.1.2.2.2.2.2.2.2.1
  have h9 := wf_u64 hw.1.2.2.2.2.2.2.2.2.1
  have h10 := wf_u64 hw.1.2.2.2.2.2.2.2.2.2.1
  have h11 := wf_u64 hw.1.2.2.2.2.2.2.2.2.2.2.1
  have h12 := wf_u64 hw.1.2.2.2.2.2.2.2.2.2.2.2.1
  have h13 := wf_u64 hw.1.2.2.2.2.2.2.2.2.2.2.2.2.1
  have hb := wf_bytes hw.2
  change ∃ m : Nat, x1 = m ∧ _ at h1
  change ∃ m : Nat, x2 = m ∧ _ at h2
  change ∃ m : Nat, x4 = m ∧ _ at h4
  change ∃ m : Nat, x5 = m ∧ _ at h5
  change ∃ m : Nat, x6 = m ∧ _ at h6
  change ∃ m : Nat, x7 = m ∧ _ at h7
  change ∃ m : Nat, x8 = m ∧ _ at h8
  change ∃ m : Nat, x9 = m ∧ _ at h9
  change ∃ m : Nat, x10 = m ∧ _ at h10
  change ∃ m : Nat, x11 = m ∧ _ at h11
  change ∃ m : Nat, x12 = m ∧ _ at h12
  change ∃ m : Nat, x13 = m ∧ _ at h13
  change ∀ x ∈ l, 0 ≤ x ∧ x < 256 at hb
  change List Int at l
  change List UInt8 at x14
  change Int at x3
  obtain ⟨x1, rfl, h1⟩ := h1
  obtain ⟨x2, rfl, h2⟩ := h2
  obtain ⟨x4, rfl, h4⟩ := h4
  obtain ⟨x5, rfl, h5⟩ := h5
  obtain ⟨x6, rfl, h6⟩ := h6
  obtain ⟨x7, rfl, h7⟩ := h7
  obtain ⟨x8, rfl, h8⟩ := h8
  obtain ⟨x9, rfl, h9⟩ := h9
  obtain ⟨x10, rfl, h10⟩ := h10
  obtain ⟨x11, rfl, h11⟩ := h11
  obtain ⟨x12, rfl, h12⟩ := h12
  obtain ⟨x13, rfl, h13⟩ := h13
  dsimp only
  unfold granarylaw12_InodeBytes
  dsimp only
  rw [ino_live2, show granarylaw12_long ((x1 : Int), (x2 : Int), x3, (x4 : Int), (x5 : Int), (x6 : Int), (x7 : Int), (x8 : Int), (x9 : Int), (x10 : Int), (x11 : Int), (x12 : Int), (x13 : Int), x14) = some _ from rfl, Option.bind_some, cond_some, Option.bind_some]
  cases hc : cond (decide ((2000 : Int) < ((x14.length : Nat) : Int))) true (decide ((2000 : Int) < ((l.length : Nat) : Int))) with
  | true => rfl
  | false =>
    have hl : x14.length ≤ 2000 ∧ l.length ≤ 2000 := by
      cases h : decide ((2000 : Int) < ((x14.length : Nat) : Int)) with
      | true => rw [h] at hc; cases hc
      | false =>
        rw [h, cond_false] at hc
        have := of_decide_eq_false hc
        have := of_decide_eq_false h
        omega
    obtain ⟨hl1, hl2⟩ := hl
    obtain ⟨e, he⟩ := ino_check_total ((x1 : Int), (x2 : Int), x3, (x4 : Int), (x5 : Int), (x6 : Int), (x7 : Int), (x8 : Int), (x9 : Int), (x10 : Int), (x11 : Int), (x12 : Int), (x13 : Int), x14)
    have he2 := he
    rw [ino_check_eq] at he2
    rw [cond_false, putI_ok (by omega) h2 h4 h5 h6 h7 hl1 he, Option.bind_some, refPutI_ok (by omega) hl1 he2, Option.bind_some, fits1 (by omega), cond_true, getI_ok (by omega) hb (by omega), Option.bind_some, refGetI_ok (by omega) hb (by omega), Option.bind_some]
    rw [he, he2]
    generalize cond (!(decide (e = 0))) (e, []) (0, IB x1 x2 (x3 % 4294967296).toNat x4 x5 x6 x7 x8 x9 x10 x11 x12 x13 x14) = p
    generalize GI l = q
    simp only [decide_true, Bool.and_self, cond_true, granarylaw12_num, Option.bind_some]

end Go.Rf.W.Pure
