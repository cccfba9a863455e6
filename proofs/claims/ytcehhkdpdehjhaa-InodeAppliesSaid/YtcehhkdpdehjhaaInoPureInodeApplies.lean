/-
  Whatever is to be set: the plain law.
-/
import Derived.Test.YtcehhkdpdehjhaaInoFInodeApplies
import Derived.Test.YtcehhkdpdehjhaaPlInoApply
import Derived.Test.YtcehhkdpdehjhaaRfC
set_option linter.unusedVariables false
set_option maxRecDepth 10000
namespace Go.Rf.W.Pure
open Go Go.Rf Go.Rf.W

theorem inodeApplies (x : EKs [(.pair (.int .u64) (.pair (.int .u32) (.pair (.int .i64) (.pair (.int .u32) (.pair (.int .u32) (.pair (.int .u32) (.pair (.int .u32) (.pair (.int .u64) (.pair (.int .u64) (.pair (.int .u64) (.pair (.int .u64) (.pair (.int .u64) (.pair (.int .u64) (.pair .str .unit)))))))))))))), (.pair (.int .i64) (.pair (.int .u32) (.pair (.int .u32) (.pair (.int .u32) (.pair (.int .u64) (.pair (.int .u64) (.pair (.int .u64) .unit))))))), (.int .u64)]) (hw : wfs [(.pair (.int .u64) (.pair (.int .u32) (.pair (.int .i64) (.pair (.int .u32) (.pair (.int .u32) (.pair (.int .u32) (.pair (.int .u32) (.pair (.int .u64) (.pair (.int .u64) (.pair (.int .u64) (.pair (.int .u64) (.pair (.int .u64) (.pair (.int .u64) (.pair .str .unit)))))))))))))), (.pair (.int .i64) (.pair (.int .u32) (.pair (.int .u32) (.pair (.int .u32) (.pair (.int .u64) (.pair (.int .u64) (.pair (.int .u64) .unit))))))), (.int .u64)] x) : ∃ N, granarylaw12_InodeApplies N (x.1.1, x.1.2.1, x.1.2.2.1, x.1.2.2.2.1, x.1.2.2.2.2.1, x.1.2.2.2.2.2.1, x.1.2.2.2.2.2.2.1, x.1.2.2.2.2.2.2.2.1, x.1.2.2.2.2.2.2.2.2.1, x.1.2.2.2.2.2.2.2.2.2.1, x.1.2.2.2.2.2.2.2.2.2.2.1, x.1.2.2.2.2.2.2.2.2.2.2.2.1, x.1.2.2.2.2.2.2.2.2.2.2.2.2.1, x.1.2.2.2.2.2.2.2.2.2.2.2.2.2.1, x.2.1.1, x.2.1.2.1, x.2.1.2.2.1, x.2.1.2.2.2.1, x.2.1.2.2.2.2.1, x.2.1.2.2.2.2.2.1, x.2.1.2.2.2.2.2.2.1, x.2.2) = some true := by
  refine ⟨100, ?_⟩
  unfold granarylaw12_InodeApplies
  dsimp only
  rw [ino_live]
  rw [show granarylaw12_long _ = some _ from rfl, Option.bind_some]
  cases decide ((2000 : Int) < _)
  · rw [cond_false]
    obtain ⟨r, h1, h2⟩ := ino_apply_eq (x.1.1, x.1.2.1, x.1.2.2.1, x.1.2.2.2.1, x.1.2.2.2.2.1, x.1.2.2.2.2.2.1, x.1.2.2.2.2.2.2.1, x.1.2.2.2.2.2.2.2.1, x.1.2.2.2.2.2.2.2.2.1, x.1.2.2.2.2.2.2.2.2.2.1, x.1.2.2.2.2.2.2.2.2.2.2.1, x.1.2.2.2.2.2.2.2.2.2.2.2.1, x.1.2.2.2.2.2.2.2.2.2.2.2.2.1, x.1.2.2.2.2.2.2.2.2.2.2.2.2.2.1,
      x.2.1.1, x.2.1.2.1, x.2.1.2.2.1, x.2.1.2.2.2.1, x.2.1.2.2.2.2.1, x.2.1.2.2.2.2.2.1, x.2.1.2.2.2.2.2.2.1, x.2.2)
    rw [h1, Option.bind_some, h2, Option.bind_some]
    simp only [decide_true, beq_self_eq_true, Bool.and_self, cond_true, granarylaw12_num, Option.bind_some]
  · rfl

end Go.Rf.W.Pure
