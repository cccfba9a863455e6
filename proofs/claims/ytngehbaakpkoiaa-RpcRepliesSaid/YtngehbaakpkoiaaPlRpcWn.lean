/-
  Package rpc: numbers in a row, laid.
-/
import Derived.Test.YtngehbaakpkoiaaPlRpcRefW
set_option linter.unusedVariables false
set_option maxRecDepth 10000
namespace Go.Rf.W.Pure
open Go Go.Rf Go.Rf.W

/-- Numbers in a row, laid. -/
def wN (l : List Nat) : Nat → Int × List Int
  | 0 => (0, [])
  | i + 1 => wU (l.getD i 0) (wN l i)

theorem wN_len (l : List Nat) : ∀ i, (wN l i).2.length ≤ 4 * i
  | 0 => by simp [wN]
  | i + 1 => by
    have h1 := wN_len l i
    have h2 := wU_len (l.getD i 0) (wN l i)
    show (wU (l.getD i 0) (wN l i)).2.length ≤ _
    omega


theorem wN_zero (l : List Nat) : ∀ i, (wN l i).1 = 0
  | 0 => rfl
  | i + 1 => by show (wU _ (wN l i)).1 = 0; unfold wU; rw [if_pos (wN_zero l i)]; exact wN_zero l i

theorem wN_enc (l : List Nat) : ∀ i, i ≤ l.length → (wN l i).2 = ((l.take i).map (be 4)).flatten
  | 0, _ => by simp [wN]
  | i + 1, h => by
    show (wU _ (wN l i)).2 = _
    unfold wU
    rw [if_pos (wN_zero l i)]
    have t : l.take (i + 1) = l.take i ++ [l.getD i 0] := by
      rw [List.take_add_one, List.getD, List.getElem?_eq_getElem (by omega)]; rfl
    rw [t, List.map_append, List.flatten_append, wN_enc l i (by omega)]
    simp

end Go.Rf.W.Pure
