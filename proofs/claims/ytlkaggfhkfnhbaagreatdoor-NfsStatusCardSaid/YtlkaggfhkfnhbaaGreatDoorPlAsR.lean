/-
  errors.As as the printed texts know it: chains of errors in memory that nobody writes.
-/
import Derived.Test.YtlkaggfhkfnhbaaGreatDoorPlAs
import Derived.Test.YtlkaggfhkfnhbaaGreatDoorRfC
set_option linter.unusedVariables false
namespace Go.Rf.W.As
open Go Go.Rf Go.Proofs Go.RowKit

theorem errW_of {rom : Rom} {ρ : RM} {hg : Nat → Option Seg} {w : World} (hR : Rel rom ρ hg w) {o : Bool} {e : Int} : ∀ {d : Nat} {v : Value}, ErrRel rom o e d v → ErrW w o e d v
  | 0, _, h => h
  | _ + 1, _, ⟨b, p, _, _, u, h1, _, _, h4, h5⟩ => ⟨b, p, u, h1, (hR.rm _ _ _ h4).1, errW_of hR h5⟩

theorem laid_of {rom : Rom} {ρ : RM} {hg : Nat → Option Seg} {w : World} (hR : Rel rom ρ hg w) : w.cell? ⟨0, 0, none⟩ = some (.iface 205 (.agg #[.pointer (some ⟨1, 48, none⟩)])) :=
  (hR.rm 0 0 _ (hR.base 0 0 _ rfl)).1

theorem rel_nil {rom : Rom} {ρ : RM} {hg : Nat → Option Seg} {w w' : World} (hR : Rel rom ρ hg w) (hB : Below w.heap.size w w') : Rel rom ρ (hget []) w' :=
  ⟨fun id g h => by simp [hget_def] at h, fun id id' g g' r r' h => by simp [hget_def] at h, fun b o v hv => ⟨(hB.cell (p := ⟨b, o, none⟩) (World.block_lt_of_cell? _ _ (hR.rm b o v hv).1)).trans (hR.rm b o v hv).1, fun id g r h => by simp [hget_def] at h⟩, hR.base⟩

theorem tr_nil {rom : Rom} {ρ : RM} {w w' : World} (hB : Below w.heap.size w w') : Tr rom ρ (hget []) w rom ρ (hget []) w' :=
  ⟨fun _ _ _ h => h, fun _ _ h => h, hB.size, hB.os, hB.tape, hB.output, fun b hb _ => hB.block b hb, fun b o hb _ => ⟨World.cell?_of_block (hB.block b hb), by unfold frz; rw [hB.block b hb]⟩,
    fun b o ⟨id, g, r, h, _⟩ _ => by simp [hget_def] at h, fun b o v h1 h2 _ => by rw [h1] at h2; cases h2⟩

theorem below_of {rom rom' : Rom} {ρ ρ' : RM} {hg : Nat → Option Seg} {w w' : World} (h : Tr rom ρ (hget []) w rom' ρ' hg w') : Below w.heap.size w w' :=
  ⟨h.os, h.tape, h.output, h.size, fun k hk => h.u1 k hk fun o ⟨id, g, r, h, _⟩ => by simp [hget_def] at h⟩

end Go.Rf.W.As
