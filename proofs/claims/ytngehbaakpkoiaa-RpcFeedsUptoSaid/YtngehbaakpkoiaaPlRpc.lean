/-
  Package rpc: the laws' 'live' part.
-/
import Derived.Test.YtngehbaakpkoiaaRpcF0
import Derived.Test.YtngehbaakpkoiaaPlBytes
set_option linter.unusedVariables false
set_option maxRecDepth 100000
namespace Go.Rf.W.Pure
open Go Go.Rf Go.Rf.W

theorem newReader_nil : xdr_NewReader [] = some [] := by
  have h : slices_Clone_byte_byte_v1 [] = some [] := agreeC_eq rfl rfl
  unfold xdr_NewReader
  rw [h]
  rfl

theorem classify_nil : ∃ r, rpc_Classify_v1 30000 [] = some r ∧ r.1 = 0 := by
  have h : (rpc_Classify_v1 30000 []).map (fun r => r.1) = some 0 := by
    unfold rpc_Classify_v1
    rw [newReader_nil, Option.bind_some]
    decide +kernel
  cases h2 : rpc_Classify_v1 30000 [] with
  | none => rw [h2] at h; cases h
  | some r => rw [h2] at h; exact ⟨r, rfl, Option.some.inj h⟩

theorem rpc_live : granarylaw21_live 30000 () = some true := by
  obtain ⟨r, h1, h2⟩ := classify_nil
  unfold granarylaw21_live
  rw [h1]
  simp only [Option.bind_some (a := r), h2]
  decide +kernel
end Go.Rf.W.Pure
