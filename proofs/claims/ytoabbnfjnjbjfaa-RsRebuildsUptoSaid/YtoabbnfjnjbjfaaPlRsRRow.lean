/-
  Package rs: the document's rows (out of the law of rows).
-/
import Derived.Test.YtoabbnfjnjbjfaaPlRsRow
set_option linter.unusedVariables false
set_option maxRecDepth 10000
namespace Go.Rf.W.Pure
open Go Go.Rf Go.Rf.W

theorem rinv_iv {N a : Nat} (hN : 300 < N) (ha : a < 256) : ∃ e, granaryref02_Inv N (a : Int) = some (iv a, e) := by
  rw [refInv_eq (by omega) ha]
  unfold iv
  by_cases h : a = 0
  · rw [if_pos h, if_pos h]; exact ⟨20, rfl⟩
  · rw [if_neg h, if_neg h]; exact ⟨0, rfl⟩

theorem rrow_ok {N k m i : Nat} (hN : 300 < N) (hk : 1 ≤ k) (hk2 : k ≤ 16) (hm : m ≤ 8) (hi : i < k + m) : granaryref03_Code_Row N ((i : Int), (k : Int), (m : Int)) = some ((k : Int), (m : Int), rowS k i) := by
  have hf : fits 1 k = true := by simp [fits]; omega
  have key : granaryref03_Code_Row_l0 N ((i : Int), 0, (k : Int), List.replicate k 0) = some ((k : Int), rowS k i) := by
    by_cases h : i < k
    · have h2 := rs_iter (b := granaryref03_Code_Row_b0 N) (r := ((k : Int), rowS k i)) (fun j => ((i : Int), (j : Int), (k : Int), if i < j then (List.replicate k 0).set i 1 else List.replicate k 0)) k (fun j hj nx => ?_) (fun nx => ?_) N (by omega)
      · show loopF (granaryref03_Code_Row_b0 N) N _ = _
        simpa using h2
      · have hlen : (if i < j then (List.replicate k (0 : Int)).set i 1 else List.replicate k 0).length = k := by split <;> simp
        unfold granaryref03_Code_Row_b0
        dsimp only
        rw [deT (p := (j : Int) < (k : Int)) (by omega), cond_true, deT (p := (i : Int) < (k : Int)) (by omega), cond_true, Option.bind_some, deF (p := (k : Int) ≤ (i : Int)) (by omega), wrapF_i64 (n := (j : Int) + 1) (by omega) (by omega)]
        simp only [cond_false, Option.bind_some]
        by_cases hij : i = j
        · subst hij
          rw [deS, cond_true, deT (p := (0 : Int) ≤ (i : Int)) (by omega), deT (by rw [hlen]; omega), Bool.and_self, cond_true, Int.toNat_natCast, deT (by rw [hlen]; exact hj), cond_true, Option.bind_some, if_neg (Nat.lt_irrefl i), if_pos (Nat.lt_succ_self i)]
          rfl
        · rw [deF (p := (i : Int) = (j : Int)) (by omega), cond_false, Option.bind_some]
          by_cases hlt : i < j
          · rw [if_pos hlt, if_pos (by omega)]; rfl
          · rw [if_neg hlt, if_neg (by omega)]; rfl
      · unfold granaryref03_Code_Row_b0 rowS
        dsimp only
        rw [deF (p := (k : Int) < (k : Int)) (by omega), cond_false, if_pos h]
        rw [if_pos h]
    · have hG : ((List.range k).map fun j => iv (i ^^^ j)).length = k := by simp
      have h2 := rs_iter (b := granaryref03_Code_Row_b0 N) (r := ((k : Int), rowS k i)) (fun j => ((i : Int), (j : Int), (k : Int), tk ((List.range k).map fun j => iv (i ^^^ j)) j)) k (fun j hj nx => ?_) (fun nx => ?_) N (by omega)
      · rw [← h2]
        show _ = loopF (granaryref03_Code_Row_b0 N) N ((i : Int), ((0 : Nat) : Int), (k : Int), tk _ 0)
        rw [tk_zero, hG]
        rfl
      · have hx : i ^^^ j < 256 := x8 (by omega) (by omega)
        obtain ⟨e, hv⟩ := rinv_iv (N := N) hN hx
        have hlen : (tk ((List.range k).map fun j => iv (i ^^^ j)) j).length = k := by rw [tk_length _ (by rw [hG]; omega), hG]
        have hg : ((List.range k).map fun j => iv (i ^^^ j)).getD j 0 = iv (i ^^^ j) := by
          rw [List.getD, List.getElem?_map, List.getElem?_range hj]; rfl
        unfold granaryref03_Code_Row_b0
        dsimp only
        rw [deT (p := (j : Int) < (k : Int)) (by omega), cond_true, deF (p := (i : Int) < (k : Int)) (by omega), cond_false, Option.bind_some, cond_false, Option.bind_some, deT (p := (k : Int) ≤ (i : Int)) (by omega), cond_true, wrapF_u8 (n := (i : Int)) (by omega) (by omega), wrapF_u8 (n := (j : Int)) (by omega) (by omega),
          xorF_nat .u8 (by rw [two_pow_topA]; show i < 256; omega) (by rw [two_pow_topA]; show j < 256; omega), hv, Option.bind_some, deT (p := (0 : Int) ≤ (j : Int)) (by omega), deT (by rw [hlen]; omega), Bool.and_self, cond_true, Int.toNat_natCast, deT (by rw [hlen]; exact hj), cond_true, Option.bind_some, wrapF_i64 (n := (j : Int) + 1) (by omega) (by omega)]
        dsimp only
        rw [← hg, tk_set (by rw [hG]; exact hj)]
        rfl
      · unfold granaryref03_Code_Row_b0 rowS
        dsimp only
        rw [deF (p := (k : Int) < (k : Int)) (by omega), cond_false, if_neg h]
        have : tk ((List.range k).map fun j => iv (i ^^^ j)) k = (List.range k).map fun j => iv (i ^^^ j) := by
          have := tk_all ((List.range k).map fun j => iv (i ^^^ j))
          rw [hG] at this
          exact this
        rw [this]
  unfold granaryref03_Code_Row
  dsimp only
  rw [deF (p := (i : Int) < 0) (by omega), cond_false, wrapF_i64 (by omega) (by omega), deF (p := (k : Int) + (m : Int) ≤ (i : Int)) (by omega), Option.bind_some, cond_false, deT (p := (0 : Int) ≤ (k : Int)) (by omega), Int.toNat_natCast, hf, Bool.and_self, cond_true, show (EK.dflt (.int .u8)) = (0 : Int) from rfl, key]
  rfl

end Go.Rf.W.Pure
