/-
  ShaNil, plain: a nil Hash is one of no bytes.
-/
import Derived.Test.YtokfelhleojnjaaShaFShaNil
import Derived.Test.YtokfelhleojnjaaPlShaL
import Derived.Test.YtokfelhleojnjaaRfC
set_option linter.unusedVariables false
namespace Go.Rf.W.Pure
open Go Go.Rf Go.Rf.W Go.Rf.W.Sha

theorem pad1_ok {N : Nat} {s : List Int} (hN : 64 < N) :
    sha_Hash_Sum_v1_l0 N (0, 1, s, [128]) = some (0, 1 + zs 0, s, 128 :: List.replicate (zs 0) 0) := by
  have hz : zs 0 < 64 := Nat.mod_lt _ (by decide)
  have hc : ∀ i : Nat, i < 64 → Int.tmod (wrapF .i64 (wrapF .i64 ((0 : Int) + ((1 + i : Nat) : Int)) + 8)) 64 = (((0 + (1 + i) + 8) % 64 : Nat) : Int) := fun i hi => by
    rw [wrapF_i64 (n := (0 : Int) + ((1 + i : Nat) : Int)) (by omega) (by omega), wrapF_i64 (by omega) (by omega)]
    have : (0 : Int) + ((1 + i : Nat) : Int) + 8 = ((0 + (1 + i) + 8 : Nat) : Int) := by omega
    rw [this]
    exact tmod_nat _ 64
  refine loop_iter (b := sha_Hash_Sum_v1_b0 N) (r := (0, 1 + zs 0, s, 128 :: List.replicate (zs 0) 0)) (fun i => (0, 1 + i, s, 128 :: List.replicate i 0)) (zs 0) (fun i hi nx => ?_) (fun nx => ?_) N (by omega)
  · unfold sha_Hash_Sum_v1_b0
    dsimp only
    rw [hc i (by omega), deF (by simp only [zs] at hi; omega), Bool.not_false, cond_true]
    have e1 : List.take 1 (List.drop 0 [(0 : Int)]) = [0] := rfl
    have e2 : List.drop 0 (128 :: List.replicate i (0 : Int)) ++ [0] = 128 :: List.replicate (i + 1) 0 := by
      rw [List.drop_zero, List.cons_append, List.replicate_succ', ]
    rw [e1, e2, deT (p := 1 ≤ [(0 : Int)].length) (by decide), deT (p := 0 + (1 + i) = (128 :: List.replicate i (0 : Int)).length) (by simp; omega), fits1 (by simp; omega)]
    simp only [Bool.and_self, cond_true, List.length_cons, List.length_replicate]
    rw [show i + 1 + 1 = 1 + (i + 1) by omega]
  · unfold sha_Hash_Sum_v1_b0
    dsimp only
    rw [hc _ hz, deT (by simp only [zs]; omega), Bool.not_true, cond_false]

theorem nil_sum {N : Nat} (hN : 3000 < N) : sha_Hash_Sum_v1 N () = some (digest []) := by
  unfold sha_Hash_Sum_v1
  have hp := putw_ok (N := N) (off := 0) (len := 1 + zs 0) (n := 0) (size := 8) (L := 128 :: List.replicate (zs 0) 0) (by decide) (by decide) (by omega)
  rw [show ((8 : Nat) : Int) = 8 from rfl, show ((0 : Nat) : Int) = 0 from rfl, List.drop_zero] at hp
  have ht := tail_length 0 0
  have hz : zs 0 < 64 := Nat.mod_lt _ (by decide)
  rw [init_eq, Option.bind_some, clone1_eq, clone_ok (by decide), Option.bind_some, pad1_ok (by omega), Option.bind_some]
  dsimp only
  rw [hp, Option.bind_some]
  show (Option.bind (sha_Hash_Write_v1 N (tail 0 0, init, 0, [])) _) = _
  rw [write1_ok (by simp; omega) init_length (by omega) (by simp; omega), Option.bind_some]
  dsimp only
  rw [words_ok (absorb_length _ _ _ init_length) (absorb_bd _ _ _ init_bd) (by omega), Option.bind_some]
  have hl : (wbytes (absorb (([] ++ tail 0 0).length / 64) init ([] ++ tail 0 0))).length = 32 := by rw [wbytes_length, absorb_length _ _ _ init_length]
  rw [hl, deT (by simp), cond_true]
  simp only [Nat.min_self, List.take_zero, List.nil_append, Nat.zero_add]
  rw [List.take_of_length_le (by simpa using Nat.le_of_eq hl), List.drop_of_length_le (by simp), List.append_nil]
  rfl

theorem shaNil (x : EKs [(.sl (.int .u8))]) (hw : wfs [(.sl (.int .u8))] x) : ∃ N, granarylaw05_ShaNil N x = some true := by
  refine ⟨20000, ?_⟩
  unfold granarylaw05_ShaNil
  have hl := live_ok (N := 20000) (by omega)
  by_cases h : 9000 < x.length
  · rw [deT (by omega), cond_true, hl]; rfl
  · rw [deF (by omega), cond_false]
    unfold sha_Hash_Write_v3 sha_Hash_Len sha_Hash_Save
    simp only [Option.bind_some]
    rw [nil_sum (by omega), Option.bind_some, rSum_ok (by decide) (by omega), Option.bind_some, deS, cond_true, hl]
    rfl

end Go.Rf.W.Pure
