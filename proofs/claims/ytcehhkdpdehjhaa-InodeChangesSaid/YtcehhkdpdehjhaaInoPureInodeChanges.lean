/-
  Touched, linked, sized: the plain law.
-/
import Derived.Test.YtcehhkdpdehjhaaInoFInodeChanges
import Derived.Test.YtcehhkdpdehjhaaPlInoKeep
import Derived.Test.YtcehhkdpdehjhaaRfC
set_option linter.unusedVariables false
set_option maxRecDepth 10000
namespace Go.Rf.W.Pure
open Go Go.Rf Go.Rf.W

theorem inodeChanges (x : EKs [(.pair (.pair (.int .u64) (.pair (.int .u32) (.pair (.int .i64) (.pair (.int .u32) (.pair (.int .u32) (.pair (.int .u32) (.pair (.int .u32) (.pair (.int .u64) (.pair (.int .u64) (.pair (.int .u64) (.pair (.int .u64) (.pair (.int .u64) (.pair (.int .u64) (.pair .str .unit)))))))))))))) (.pair (.int .i64) (.pair (.int .i64) (.pair (.int .u64) (.pair (.int .u64) .unit)))))]) (hw : wfs [(.pair (.pair (.int .u64) (.pair (.int .u32) (.pair (.int .i64) (.pair (.int .u32) (.pair (.int .u32) (.pair (.int .u32) (.pair (.int .u32) (.pair (.int .u64) (.pair (.int .u64) (.pair (.int .u64) (.pair (.int .u64) (.pair (.int .u64) (.pair (.int .u64) (.pair .str .unit)))))))))))))) (.pair (.int .i64) (.pair (.int .i64) (.pair (.int .u64) (.pair (.int .u64) .unit)))))] x) : ∃ N, granarylaw12_InodeChanges N (x.1.1, x.1.2.1, x.1.2.2.1, x.1.2.2.2.1, x.1.2.2.2.2.1, x.1.2.2.2.2.2.1, x.1.2.2.2.2.2.2.1, x.1.2.2.2.2.2.2.2.1, x.1.2.2.2.2.2.2.2.2.1, x.1.2.2.2.2.2.2.2.2.2.1, x.1.2.2.2.2.2.2.2.2.2.2.1, x.1.2.2.2.2.2.2.2.2.2.2.2.1, x.1.2.2.2.2.2.2.2.2.2.2.2.2.1, x.1.2.2.2.2.2.2.2.2.2.2.2.2.2.1, x.2.1, x.2.2.1, x.2.2.2.1, x.2.2.2.2.1) = some true := by
  obtain ⟨⟨x0, x1, x2, x3, x4, x5, x6, x7, x8, x9, x10, x11, x12, x13, u⟩, which, by_, size, now, u'⟩ := x
  change Int at x0 x1 x2 x3 x4 x5 x6 x7 x8 x9 x10 x11 x12 which by_ size now
  change List UInt8 at x13
  have h4 : 0 ≤ x4 ∧ x4 < 4294967296 := by
    have h : EK.wf (.int .u32) x4 := hw.1.2.2.2.2.1
    obtain ⟨m, h1, h2⟩ := wf_u32 h
    omega
  have hb := wf_i64 (n := by_) hw.2.2.1
  refine ⟨100, ?_⟩
  show granarylaw12_InodeChanges 100 (x0, x1, x2, x3, x4, x5, x6, x7, x8, x9, x10, x11, x12, x13, which, by_, size, now) = some true
  unfold granarylaw12_InodeChanges
  dsimp only
  rw [ino_live]
  rw [show granarylaw12_long _ = some _ from rfl, Option.bind_some]
  cases decide ((2000 : Int) < _)
  · rw [cond_false]
    obtain ⟨r, a1, a2⟩ := linked_eq (x0 := x0) (x1 := x1) (x2 := x2) (x3 := x3) (x5 := x5) (x6 := x6) (x7 := x7) (x8 := x8) (x9 := x9) (x10 := x10) (x11 := x11) (x12 := x12) (x13 := x13) (now := now) h4 hb
    obtain ⟨s, b1, b2⟩ := sized_eq (x0, x1, x2, x3, x4, x5, x6, x7, x8, x9, x10, x11, x12, x13, size, now)
    obtain ⟨t, c1, c2⟩ := touch_eq 100 (x0, x1, x2, x3, x4, x5, x6, x7, x8, x9, x10, x11, x12, x13, which, now)
    rw [a1, Option.bind_some, a2, Option.bind_some, b1, Option.bind_some, b2, Option.bind_some, c1, Option.bind_some, c2, Option.bind_some]
    simp only [decide_true, beq_self_eq_true, Bool.and_self, cond_true, granarylaw12_num, Option.bind_some]
  · rfl

end Go.Rf.W.Pure
