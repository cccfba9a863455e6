/-
  Every handle, every bytes: the plain law.
-/
import Derived.Test.YtcehhkdpdehjhaaInoFInodeHandles
import Derived.Test.YtcehhkdpdehjhaaPlInoHandle
import Derived.Test.YtcehhkdpdehjhaaRfC
set_option linter.unusedVariables false
set_option maxRecDepth 10000
namespace Go.Rf.W.Pure
open Go Go.Rf Go.Rf.W

theorem inodeHandles (x : EKs [(.pair (.int .u32) (.pair (.int .u64) (.pair (.int .u32) .unit))), (.sl (.int .u8))]) (hw : wfs [(.pair (.int .u32) (.pair (.int .u64) (.pair (.int .u32) .unit))), (.sl (.int .u8))] x) : ∃ N, granarylaw12_InodeHandles N (x.1.1, x.1.2.1, x.1.2.2.1, x.2) = some true := by
  refine ⟨100, ?_⟩
  obtain ⟨⟨fs, num, gen, u⟩, l⟩ := x
  have h1 := wf_u32 hw.1.1
  have h2 := wf_u64 hw.1.2.1
  have h3 := wf_u32 hw.1.2.2.1
  have hb := wf_bytes hw.2
  change ∃ m : Nat, fs = m ∧ m < 4294967296 at h1
  change ∃ m : Nat, num = m ∧ m < 18446744073709551616 at h2
  change ∃ m : Nat, gen = m ∧ m < 4294967296 at h3
  change ∀ x ∈ l, 0 ≤ x ∧ x < 256 at hb
  obtain ⟨fs, rfl, h1⟩ := h1
  obtain ⟨num, rfl, h2⟩ := h2
  obtain ⟨gen, rfl, h3⟩ := h3
  change List Int at l
  dsimp only
  unfold granarylaw12_InodeHandles
  dsimp only
  rw [ino_live]
  cases hc : decide ((2000 : Int) < ((l.length : Nat) : Int)) with
  | true => rfl
  | false =>
    have := of_decide_eq_false hc
    rw [cond_false, putH_ok (by omega) h1 h3, Option.bind_some, refPutH_ok h1 h3, Option.bind_some, fits1 (by omega), cond_true, getH_ok (by omega) hb, Option.bind_some, refGetH_ok (by omega) hb, Option.bind_some]
    generalize PH fs num gen = p
    generalize GH l = q
    simp only [decide_true, Bool.and_self, cond_true, granarylaw12_num, Option.bind_some]

end Go.Rf.W.Pure
