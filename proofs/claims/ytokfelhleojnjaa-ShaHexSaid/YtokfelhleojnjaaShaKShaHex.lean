/-
  The law's printed function is what the program does.
-/
import Derived.Test.YtokfelhleojnjaaShaK1
import Derived.Test.YtokfelhleojnjaaShaFShaHex
set_option linter.unusedVariables false
set_option maxRecDepth 100000
namespace Go.Rf.W
open Go Go.Rf Go.Proofs
noncomputable def granarylaw05_ShaHex_c : Code := codeOf Try.f4.body
noncomputable def granarylaw05_ShaHex_J (N : Nat) : Nat → Hint := fun cx => hintOf cx [(0, { reg := fun k => assoc0 k [(6, ⟨⟨[(4, (.av (.one .bool)))], [(.keep, false), (.keep, false), (.keep, false), (.keep, false)]⟩, [], [], [.bool]⟩)], cnd := fun k => assoc0 k [], loop := fun k => assoc0 k [], nil := fun k => assoc0 k [], unr := fun k => assocN k [], blk := fun k => assoc0 k [] })]
noncomputable def granarylaw05_ShaHex_C (N : Nat) : Nat → List GS := fun k => tabOf k [(9, [granarylaw05_live_g N]), (16, [sha_Parse_g N]), (17, [granaryref05_Parse_g N]), (18, [sha_Hex_g N]), (19, [granaryref05_Hex_g N]), (20, [granarylaw05_num_g N])]
def granarylaw05_ShaHex_o : List (Shp × List Nat) := [(⟨[(0, (.av (.one .bool)))], []⟩, [])]
noncomputable def granarylaw05_ShaHex_g (N : Nat) : GS := { ins := ⟨[(0, (.av (.agg [(.arr (.int .u8) (some 32))]))), (1, (.av (.one .str)))], []⟩, lend := [.keep, .keep], outs := granarylaw05_ShaHex_o.map fun s => ssOf s.1, its := [.lst (.int .u8), .str], ots := [[.bool]], F := granarylaw05_ShaHex N }
noncomputable def granarylaw05_ShaHex_CA (N : Nat) (f0 : Unit → Option (Bool)) (f1 : (List UInt8) → Option ((List Int) × Int × Int)) (f2 : (List UInt8) → Option ((List Int) × Int × Int)) (f3 : (List Int) → Option ((List UInt8))) (f4 : (List Int) → Option ((List UInt8))) (f5 : Int → Option (Int)) : Nat → List GS := fun k => tabOf k [(9, [{ granarylaw05_live_g N with F := f0 }]), (16, [{ sha_Parse_g N with F := f1 }]), (17, [{ granaryref05_Parse_g N with F := f2 }]), (18, [{ sha_Hex_g N with F := f3 }]), (19, [{ granaryref05_Hex_g N with F := f4 }]), (20, [{ granarylaw05_num_g N with F := f5 }])]
theorem granarylaw05_ShaHex_CE (N : Nat) : granarylaw05_ShaHex_CA N (granarylaw05_live N) (sha_Parse N) (granaryref05_Parse N) (sha_Hex N) (granaryref05_Hex N) (granarylaw05_num) = granarylaw05_ShaHex_C N := by kernel_rfl
theorem granarylaw05_ShaHex_t (N : Nat) : TabC Try.prog (granarylaw05_ShaHex_C N) := tab_ok ⟨⟨granarylaw05_live_ok N, trivial⟩, ⟨sha_Parse_ok N, trivial⟩, ⟨granaryref05_Parse_ok N, trivial⟩, ⟨sha_Hex_ok N, trivial⟩, ⟨granaryref05_Hex_ok N, trivial⟩, ⟨granarylaw05_num_ok N, trivial⟩, trivial⟩
theorem granarylaw05_ShaHex_i : loopsOf granarylaw05_ShaHex_c = [] := by kernel_rfl
noncomputable def granarylaw05_ShaHex_a (N : Nat) (f0 : Unit → Option (Bool)) (f1 : (List UInt8) → Option ((List Int) × Int × Int)) (f2 : (List UInt8) → Option ((List Int) × Int × Int)) (f3 : (List Int) → Option ((List UInt8))) (f4 : (List Int) → Option ((List UInt8))) (f5 : Int → Option (Int)) (x : (List Int) × (List UInt8)) : Option (Bool) :=
  (cond (decide ((9000 : Int) < (((List.length x.2) : Nat) : Int)))
  (Option.bind (f0 ()) fun r3 =>
  (some r3))
  (Option.bind (f1 x.2) fun r4 =>
  (Option.bind (f2 x.2) fun r6 =>
  (Option.bind (f3 x.1) fun r8 =>
  (Option.bind (f1 r8) fun r9 =>
  (Option.bind
  (Option.bind (f3 x.1) fun r11 =>
  (Option.bind (f4 x.1) fun r12 =>
  (cond (decide (r11 = r12))
  (cond (decide (r4.1 = r6.1))
  (Option.bind (f5 r4.2.1) fun r15 =>
  (cond (decide (r15 = r6.2.1))
  (cond (decide (r4.2.2 = r6.2.2))
  (Option.bind (f5 r9.2.1) fun r18 =>
  (cond (decide (r18 = (0 : Int)))
  (cond (decide (r9.1 = x.1))
  (Option.bind (f0 ()) fun r21 =>
  (some r21))
  (some false))
  (some false)))
  (some false))
  (some false)))
  (some false))
  (some false))))
  fun r22 =>
  (some r22)))))))
theorem granarylaw05_ShaHex_f (N : Nat) (f0 : Unit → Option (Bool)) (f1 : (List UInt8) → Option ((List Int) × Int × Int)) (f2 : (List UInt8) → Option ((List Int) × Int × Int)) (f3 : (List Int) → Option ((List UInt8))) (f4 : (List Int) → Option ((List UInt8))) (f5 : Int → Option (Int)) (x) : granarylaw05_ShaHex_a N f0 f1 f2 f3 f4 f5 x = fnStep Γ (granarylaw05_ShaHex_CA N f0 f1 f2 f3 f4 f5) (granarylaw05_ShaHex_J N) 71 Try.f4.results.toList (granarylaw05_ShaHex_g N) granarylaw05_ShaHex_o granarylaw05_ShaHex_c x := by kernel_rfl
theorem granarylaw05_ShaHex_e (N : Nat) (x) : (granarylaw05_ShaHex_g N).F x = fnStep Γ (granarylaw05_ShaHex_C N) (granarylaw05_ShaHex_J N) 71 Try.f4.results.toList (granarylaw05_ShaHex_g N) granarylaw05_ShaHex_o granarylaw05_ShaHex_c x := by
  rw [← granarylaw05_ShaHex_CE N]
  exact Eq.trans (by kernel_rfl) (granarylaw05_ShaHex_f N (granarylaw05_live N) (sha_Parse N) (granaryref05_Parse N) (sha_Hex N) (granaryref05_Hex N) (granarylaw05_num) x)
theorem granarylaw05_ShaHex_y : Try.f4.body = some granarylaw05_ShaHex_c := by kernel_rfl
theorem granarylaw05_ShaHex_n : (Try.f4.name == "runtime.NumGoroutine") = false := by kernel_rfl
theorem granarylaw05_ShaHex_ok (N : Nat) : FnDoes Try.prog 4 (granarylaw05_ShaHex_g N) := fn_ok tabOK (granarylaw05_ShaHex_t N) mixedOK (J := granarylaw05_ShaHex_J N) (body := granarylaw05_ShaHex_c) Try.func4 granarylaw05_ShaHex_y granarylaw05_ShaHex_n Try.ntmps4 (jok_from granarylaw05_ShaHex_i ⟨trivial, trivial⟩) rfl rfl (le_of_ble rfl) (granarylaw05_ShaHex_e N)
end Go.Rf.W
