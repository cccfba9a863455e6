/-
  ShaHex, plain: digits are laid and read as the document does; what is laid is read back.
-/
import Derived.Test.YtokfelhleojnjaaShaFShaHex
import Derived.Test.YtokfelhleojnjaaPlShaL
import Derived.Test.YtokfelhleojnjaaRfC
set_option linter.unusedVariables false
namespace Go.Rf.W.Pure
open Go Go.Rf Go.Rf.W Go.Rf.W.Sha

theorem shaHex (x : EKs [(.arr 32 (.int .u8)), .str]) (hw : wfs [(.arr 32 (.int .u8)), .str] x) : ∃ N, granarylaw05_ShaHex N (x.1, x.2) = some true := by
  obtain ⟨d, s⟩ := x
  obtain ⟨h1, h2⟩ := hw
  have hd : d.length = 32 := h1.1
  have hb : Bt d := fun y hy => by
    obtain ⟨m, e, hm⟩ := wf_u8 (h1.2 y hy)
    omega
  refine ⟨20000, ?_⟩
  unfold granarylaw05_ShaHex
  dsimp only
  have hl := live_ok (N := 20000) (by omega)
  by_cases h : 9000 < s.length
  · rw [deT (by omega), cond_true, hl]; rfl
  · have hx := hexS_length d
    rw [deF (by omega), cond_false, parse_ok (by omega) (by omega), Option.bind_some, rparse_ok (by omega) (by omega), Option.bind_some, hex_ok hd hb (by omega), Option.bind_some, parse_ok (by omega) (by omega), Option.bind_some, back_ok hd hb,
      Option.bind_some, rhex_ok hd hb (by omega), Option.bind_some, deS, cond_true, deS, cond_true]
    dsimp only
    unfold granarylaw05_num
    rw [Option.bind_some, deS, cond_true, deS, cond_true, Option.bind_some, deS, cond_true, deS, cond_true, hl]
    rfl

end Go.Rf.W.Pure
