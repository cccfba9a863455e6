/-
  Package sha: the laws' 'live' part.
-/
import Derived.Test.YtokfelhleojnjaaPlShaH
set_option linter.unusedVariables false
set_option maxRecDepth 10000
namespace Go.Rf.W
open Go Go.Rf
namespace Sha

def abc : List Int := [186, 120, 22, 191, 143, 1, 207, 234, 65, 65, 64, 222, 93, 174, 34, 35, 176, 3, 97, 163, 150, 23, 122, 156, 180, 16, 255, 97, 242, 0, 21, 173]
theorem abc_ok : digest [97, 98, 99] = abc := by decide +kernel

theorem write2_eq (N : Nat) : sha_Hash_Write_v2 N = sha_Hash_Write N := rfl

theorem live_ok {N : Nat} (hN : 3000 < N) : granarylaw05_live N () = some true := by
  unfold granarylaw05_live
  have e1 : List.take 3 (List.drop 0 [(97 : Int), 98, 99]) = [97, 98, 99] := rfl
  have e2 : List.take 1 (List.drop 0 [(97 : Int)]) = [97] := rfl
  have e3 : List.take 2 (List.drop 0 [(98 : Int), 99]) = [98, 99] := rfl
  have e4 : List.take 9 (List.drop 0 [(49 : Int), 50, 51, 52, 53, 54, 55, 56, 57]) = [49, 50, 51, 52, 53, 54, 55, 56, 57] := rfl
  have w1 : sha_Hash_Write_v2 N ([97], init, 0) = some (init, 1, [97]) := by
    rw [write2_eq, write0_ok (by decide) init_length (by omega) (by simp; omega)]; rfl
  have w2 : sha_Hash_Write_v1 N ([98, 99], init, 1, [97]) = some (init, 3, [97, 98, 99]) := by
    rw [write1_ok (by decide) init_length (by omega) (by simp; omega)]; rfl
  have s1 : sha_Hash_Sum N (init, 3, [97, 98, 99]) = some (abc, init, 3, [97, 98, 99]) := by
    have := sum_ok (N := N) (s := init) (rest := [97, 98, 99]) (n := 3) init_length init_bd (by decide) hN
    rw [show ((3 : Nat) : Int) = 3 from rfl] at this
    rw [this, ← abc_ok]; rfl
  have hb : ∀ b ∈ [(49 : Int), 50, 51, 52, 53, 54, 55, 56, 57], 0 ≤ b ∧ b < 256 := by decide
  have c1 : sha_Crc N [49, 50, 51, 52, 53, 54, 55, 56, 57] = some 3808858755 := by
    rw [Crc_ok hb (by decide) (by simp; omega)]
    have : ((flip (crc (flip 0) [49, 50, 51, 52, 53, 54, 55, 56, 57]) : Nat) : Int) = 3808858755 := by decide +kernel
    rw [this]
  have p1 : sha_Parse N [120] = some (z32, 50, 0) := by
    rw [parse_ok (by decide) (by omega)]; decide +kernel
  have h1 : sha_Hex N abc = some (hexS abc) := hex_ok rfl (by unfold Bt; decide +kernel) (by omega)
  have h2 : hexS abc = ([98, 97, 55, 56, 49, 54, 98, 102, 56, 102, 48, 49, 99, 102, 101, 97, 52, 49, 52, 49, 52, 48, 100, 101, 53, 100, 97, 101, 50, 50, 50, 51, 98, 48, 48, 51, 54, 49, 97, 51, 57, 54, 49, 55, 55, 97, 57, 99, 98, 52, 49, 48, 102, 102, 54, 49, 102, 50, 48, 48, 49, 53, 97, 100] : List UInt8) := by decide +kernel
  have r1 : sha_Root N [abc] = some abc := rfl
  have e5 : ∀ d : List Int, List.take 1 (List.drop 0 [d]) = [d] := fun _ => rfl
  dsimp only
  rw [e1, e2, e3, e4, Sum_ok (by decide) hN, abc_ok, Option.bind_some, init_eq, Option.bind_some, w1, Option.bind_some, e5]
  dsimp only
  rw [w2, Option.bind_some, p1, Option.bind_some, h1, Option.bind_some, h2, deS]
  dsimp only
  rw [s1, Option.bind_some]
  dsimp only
  rw [deS, c1, Option.bind_some, deS, r1, Option.bind_some, deS]
  rfl

theorem bt_of {l : List Int} (h : EK.wf (.sl (.int .u8)) l) : Bt l := wf_bytes h

end Sha
end Go.Rf.W
