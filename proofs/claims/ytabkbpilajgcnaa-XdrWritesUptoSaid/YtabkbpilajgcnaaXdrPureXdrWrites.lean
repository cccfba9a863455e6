/-
  XdrWrites, plain: whatever is written, both writers write the same.
-/
import Derived.Test.YtabkbpilajgcnaaXdrFXdrWrites
import Derived.Test.YtabkbpilajgcnaaPlXdrWs3
import Derived.Test.YtabkbpilajgcnaaPlBase
import Derived.Test.YtabkbpilajgcnaaRfC
set_option linter.unusedVariables false
set_option linter.unusedSimpArgs false
set_option maxRecDepth 10000
namespace Go.Rf.W.Pure
open Go Go.Rf Go.Rf.W

theorem xdr_live_ws : granarylaw01_live 4000000 () = some true := by decide +kernel

abbrev OpT := (Int × (Int × ((List Int) × (Int × ((List Int) × ((List (List UInt8)) × Unit))))))

def opS (o : OpT) : Nat := opsz o.2.2.1 o.2.2.2.2.1 o.2.2.2.2.2.1

def tots (x : List OpT) : Nat → Nat
  | 0 => 0
  | i + 1 => tots x i + opS (List.getD x i (EK.dflt (.pair (.int .i64) (.pair (.int .u64) (.pair (.sl (.int .u8)) (.pair (.int .i64) (.pair (.sl (.int .u32)) (.pair (.sl .str) .unit))))))))

/-- What the bulk says of one operation. -/
def OpOk (o : OpT) : Prop := o.2.2.1.length ≤ 1048576 ∧ o.2.2.2.2.1.length ≤ 1048576 ∧ (∀ j, (o.2.2.2.2.2.1.getD j []).length ≤ 1048576) ∧ o.2.2.2.2.2.1.length ≤ 1048576

theorem inner_ok {N : Nat} {x : List OpT} {i : Nat} (hi : i < x.length) (ho : OpOk (List.getD x i (EK.dflt (.pair (.int .i64) (.pair (.int .u64) (.pair (.sl (.int .u8)) (.pair (.int .i64) (.pair (.sl (.int .u32)) (.pair (.sl .str) .unit))))))))) (hx : x.length < 10000000) : ∀ (d f j n : Nat), j + d = ((List.getD x i (EK.dflt (.pair (.int .i64) (.pair (.int .u64) (.pair (.sl (.int .u8)) (.pair (.int .i64) (.pair (.sl (.int .u32)) (.pair (.sl .str) .unit))))))))).2.2.2.2.2.1.length → d < f → n ≤ 1000000000 →
    ∃ m : Nat, loopF (granarylaw01_huge_b2 N) f (x, (n : Int), (i : Int), (j : Int)) = some (m : Int) ∧ n ≤ m ∧ m ≤ max n 1108584 ∧ (m ≤ 60000 → m + tot ((List.getD x i (EK.dflt (.pair (.int .i64) (.pair (.int .u64) (.pair (.sl (.int .u8)) (.pair (.int .i64) (.pair (.sl (.int .u32)) (.pair (.sl .str) .unit))))))))).2.2.2.2.2.1 j = n + tot ((List.getD x i (EK.dflt (.pair (.int .i64) (.pair (.int .u64) (.pair (.sl (.int .u8)) (.pair (.int .i64) (.pair (.sl (.int .u32)) (.pair (.sl .str) .unit))))))))).2.2.2.2.2.1 ((List.getD x i (EK.dflt (.pair (.int .i64) (.pair (.int .u64) (.pair (.sl (.int .u8)) (.pair (.int .i64) (.pair (.sl (.int .u32)) (.pair (.sl .str) .unit))))))))).2.2.2.2.2.1.length) := by
  intro d
  induction d with
  | zero =>
    intro f j n hj hf hn
    obtain ⟨f, rfl⟩ : ∃ g, f = g + 1 := ⟨f - 1, by omega⟩
    refine ⟨n, ?_, by omega, by omega, fun _ => by rw [← hj]; rfl⟩
    show granarylaw01_huge_b2 N _ _ = _
    unfold granarylaw01_huge_b2
    dsimp only
    rw [deT (p := (0 : Int) ≤ (i : Int)) (by omega), deT (p := (i : Int) < ((x.length : Nat) : Int)) (by omega), Bool.and_self, cond_true, cond_true, Int.toNat_natCast, deF (p := (j : Int) < _) (by omega)]
    rfl
  | succ d ih =>
    intro f j n hj hf hn
    obtain ⟨f, rfl⟩ : ∃ g, f = g + 1 := ⟨f - 1, by omega⟩
    by_cases hbig : 60000 < n
    · refine ⟨n, ?_, by omega, by omega, fun h => by omega⟩
      show granarylaw01_huge_b2 N _ _ = _
      unfold granarylaw01_huge_b2
      dsimp only
      rw [deT (p := (0 : Int) ≤ (i : Int)) (by omega), deT (p := (i : Int) < ((x.length : Nat) : Int)) (by omega), Bool.and_self, cond_true, cond_true, Int.toNat_natCast, deT (p := (j : Int) < _) (by omega), deF (p := (n : Int) ≤ 60000) (by omega)]
      rfl
    · have hs := ho.2.2.1 j
      obtain ⟨m, h1, h2, h3, h4⟩ := ih f (j + 1) (n + (((List.getD x i (EK.dflt (.pair (.int .i64) (.pair (.int .u64) (.pair (.sl (.int .u8)) (.pair (.int .i64) (.pair (.sl (.int .u32)) (.pair (.sl .str) .unit))))))))).2.2.2.2.2.1.getD j []).length + 8) (by omega) (by omega) (by omega)
      have hjl := ho.2.2.2
      refine ⟨m, ?_, by omega, by omega, fun h => ?_⟩
      · rw [← h1]
        show granarylaw01_huge_b2 N (loopF (granarylaw01_huge_b2 N) f) _ = _
        generalize loopF (granarylaw01_huge_b2 N) f = nx
        unfold granarylaw01_huge_b2
        dsimp only
        rw [deT (p := (0 : Int) ≤ (i : Int)) (by omega), deT (p := (i : Int) < ((x.length : Nat) : Int)) (by omega), Bool.and_self, cond_true, cond_true, Int.toNat_natCast, deT (p := (j : Int) < ((((List.getD x i (EK.dflt (.pair (.int .i64) (.pair (.int .u64) (.pair (.sl (.int .u8)) (.pair (.int .i64) (.pair (.sl (.int .u32)) (.pair (.sl .str) .unit))))))))).2.2.2.2.2.1.length : Nat) : Int)) (by omega), cond_true, deT (p := (n : Int) ≤ 60000) (by omega), Option.bind_some, cond_true, deT (p := (0 : Int) ≤ (j : Int)) (by omega), Bool.and_self, cond_true, Int.toNat_natCast, getD_str, wrapF_i64 (n := (n : Int) + _) (by omega) (by omega), wrapF_i64 (n := (n : Int) + _ + 8) (by omega) (by omega), wrapF_i64 (n := (j : Int) + 1) (by omega) (by omega)]
        rfl
      · have e : tot ((List.getD x i (EK.dflt (.pair (.int .i64) (.pair (.int .u64) (.pair (.sl (.int .u8)) (.pair (.int .i64) (.pair (.sl (.int .u32)) (.pair (.sl .str) .unit))))))))).2.2.2.2.2.1 (j + 1) = tot ((List.getD x i (EK.dflt (.pair (.int .i64) (.pair (.int .u64) (.pair (.sl (.int .u8)) (.pair (.int .i64) (.pair (.sl (.int .u32)) (.pair (.sl .str) .unit))))))))).2.2.2.2.2.1 j + (((List.getD x i (EK.dflt (.pair (.int .i64) (.pair (.int .u64) (.pair (.sl (.int .u8)) (.pair (.int .i64) (.pair (.sl (.int .u32)) (.pair (.sl .str) .unit))))))))).2.2.2.2.2.1.getD j []).length + 8 := rfl
        have := h4 h
        omega

theorem outer_ok {N : Nat} {x : List OpT} (hx : x.length < 10000000) (ho : ∀ i, i < x.length → OpOk (List.getD x i (EK.dflt (.pair (.int .i64) (.pair (.int .u64) (.pair (.sl (.int .u8)) (.pair (.int .i64) (.pair (.sl (.int .u32)) (.pair (.sl .str) .unit))))))))) (hN : 2000000 < N) : ∀ (d f i n : Nat), i + d = min x.length 61 → d < f → n ≤ 12000000 * i →
    ∃ m : Nat, loopF (granarylaw01_huge_b0 N) f (x, (n : Int), (i : Int)) = some (m : Int) ∧ n ≤ m ∧ (x.length ≤ 60 → m ≤ 60000 → m + tots x i = n + tots x x.length) := by
  intro d
  induction d with
  | zero =>
    intro f i n hj hf hn
    obtain ⟨f, rfl⟩ : ∃ g, f = g + 1 := ⟨f - 1, by omega⟩
    refine ⟨n, ?_, by omega, fun h _ => by rw [show i = x.length by omega]⟩
    show granarylaw01_huge_b0 N _ _ = _
    unfold granarylaw01_huge_b0
    dsimp only
    by_cases c : (i : Int) < ((x.length : Nat) : Int)
    · rw [deT c, cond_true, deF (p := (i : Int) ≤ 60) (by omega)]; rfl
    · rw [deF c]; rfl
  | succ d ih =>
    intro f i n hj hf hn
    obtain ⟨f, rfl⟩ : ∃ g, f = g + 1 := ⟨f - 1, by omega⟩
    have hi : i < x.length := by omega
    have hok := ho i hi
    obtain ⟨m1, g1, g2, g3, g4⟩ := inner_ok (N := N) hi hok hx ((List.getD x i (EK.dflt (.pair (.int .i64) (.pair (.int .u64) (.pair (.sl (.int .u8)) (.pair (.int .i64) (.pair (.sl (.int .u32)) (.pair (.sl .str) .unit))))))))).2.2.2.2.2.1.length N 0 (n + ((List.getD x i (EK.dflt (.pair (.int .i64) (.pair (.int .u64) (.pair (.sl (.int .u8)) (.pair (.int .i64) (.pair (.sl (.int .u32)) (.pair (.sl .str) .unit))))))))).2.2.1.length + 8 * ((List.getD x i (EK.dflt (.pair (.int .i64) (.pair (.int .u64) (.pair (.sl (.int .u8)) (.pair (.int .i64) (.pair (.sl (.int .u32)) (.pair (.sl .str) .unit))))))))).2.2.2.2.1.length) (by omega) (by have := hok.2.2.2; omega) (by have := hok.1; have := hok.2.1; omega)
    obtain ⟨m, h1, h2, h3⟩ := ih f (i + 1) m1 (by omega) (by omega) (by have := hok.1; have := hok.2.1; omega)
    refine ⟨m, ?_, by omega, fun h4 h5 => ?_⟩
    · rw [← h1]
      show granarylaw01_huge_b0 N (loopF (granarylaw01_huge_b0 N) f) _ = _
      generalize loopF (granarylaw01_huge_b0 N) f = nx
      unfold granarylaw01_huge_b0
      dsimp only
      have hk1 := hok.1
      have hk2 := hok.2.1
      rw [deT (p := (i : Int) < ((x.length : Nat) : Int)) (by omega), cond_true, deT (p := (i : Int) ≤ 60) (by omega), Option.bind_some, cond_true, deT (p := (0 : Int) ≤ (i : Int)) (by omega), Bool.and_self, cond_true, cond_true, Int.toNat_natCast, wrapF_i64 (n := (n : Int) + ((((List.getD x i (EK.dflt (.pair (.int .i64) (.pair (.int .u64) (.pair (.sl (.int .u8)) (.pair (.int .i64) (.pair (.sl (.int .u32)) (.pair (.sl .str) .unit))))))))).2.2.1.length : Nat) : Int)) (by omega) (by omega), wrapF_i64 (n := (8 : Int) * ((((List.getD x i (EK.dflt (.pair (.int .i64) (.pair (.int .u64) (.pair (.sl (.int .u8)) (.pair (.int .i64) (.pair (.sl (.int .u32)) (.pair (.sl .str) .unit))))))))).2.2.2.2.1.length : Nat) : Int)) (by omega) (by omega), wrapF_i64 (n := (n : Int) + ((((List.getD x i (EK.dflt (.pair (.int .i64) (.pair (.int .u64) (.pair (.sl (.int .u8)) (.pair (.int .i64) (.pair (.sl (.int .u32)) (.pair (.sl .str) .unit))))))))).2.2.1.length : Nat) : Int) + (8 : Int) * ((((List.getD x i (EK.dflt (.pair (.int .i64) (.pair (.int .u64) (.pair (.sl (.int .u8)) (.pair (.int .i64) (.pair (.sl (.int .u32)) (.pair (.sl .str) .unit))))))))).2.2.2.2.1.length : Nat) : Int)) (by omega) (by omega)]
      have g1' : granarylaw01_huge_l2 N (x, (n : Int) + ((((List.getD x i (EK.dflt (.pair (.int .i64) (.pair (.int .u64) (.pair (.sl (.int .u8)) (.pair (.int .i64) (.pair (.sl (.int .u32)) (.pair (.sl .str) .unit))))))))).2.2.1.length : Nat) : Int) + (8 : Int) * ((((List.getD x i (EK.dflt (.pair (.int .i64) (.pair (.int .u64) (.pair (.sl (.int .u8)) (.pair (.int .i64) (.pair (.sl (.int .u32)) (.pair (.sl .str) .unit))))))))).2.2.2.2.1.length : Nat) : Int), (i : Int), 0) = some (m1 : Int) := by
        rw [show (n : Int) + ((((List.getD x i (EK.dflt (.pair (.int .i64) (.pair (.int .u64) (.pair (.sl (.int .u8)) (.pair (.int .i64) (.pair (.sl (.int .u32)) (.pair (.sl .str) .unit))))))))).2.2.1.length : Nat) : Int) + (8 : Int) * ((((List.getD x i (EK.dflt (.pair (.int .i64) (.pair (.int .u64) (.pair (.sl (.int .u8)) (.pair (.int .i64) (.pair (.sl (.int .u32)) (.pair (.sl .str) .unit))))))))).2.2.2.2.1.length : Nat) : Int) = ((n + ((List.getD x i (EK.dflt (.pair (.int .i64) (.pair (.int .u64) (.pair (.sl (.int .u8)) (.pair (.int .i64) (.pair (.sl (.int .u32)) (.pair (.sl .str) .unit))))))))).2.2.1.length + 8 * ((List.getD x i (EK.dflt (.pair (.int .i64) (.pair (.int .u64) (.pair (.sl (.int .u8)) (.pair (.int .i64) (.pair (.sl (.int .u32)) (.pair (.sl .str) .unit))))))))).2.2.2.2.1.length : Nat) : Int) by omega]
        exact g1
      rw [g1', Option.bind_some, wrapF_i64 (n := (i : Int) + 1) (by omega) (by omega)]
      rfl
    · have e : tots x (i + 1) = tots x i + opS (List.getD x i (EK.dflt (.pair (.int .i64) (.pair (.int .u64) (.pair (.sl (.int .u8)) (.pair (.int .i64) (.pair (.sl (.int .u32)) (.pair (.sl .str) .unit)))))))) := rfl
      have e2 : opS (List.getD x i (EK.dflt (.pair (.int .i64) (.pair (.int .u64) (.pair (.sl (.int .u8)) (.pair (.int .i64) (.pair (.sl (.int .u32)) (.pair (.sl .str) .unit)))))))) = ((List.getD x i (EK.dflt (.pair (.int .i64) (.pair (.int .u64) (.pair (.sl (.int .u8)) (.pair (.int .i64) (.pair (.sl (.int .u32)) (.pair (.sl .str) .unit))))))))).2.2.1.length + 8 * ((List.getD x i (EK.dflt (.pair (.int .i64) (.pair (.int .u64) (.pair (.sl (.int .u8)) (.pair (.int .i64) (.pair (.sl (.int .u32)) (.pair (.sl .str) .unit))))))))).2.2.2.2.1.length + tot ((List.getD x i (EK.dflt (.pair (.int .i64) (.pair (.int .u64) (.pair (.sl (.int .u8)) (.pair (.int .i64) (.pair (.sl (.int .u32)) (.pair (.sl .str) .unit))))))))).2.2.2.2.2.1 ((List.getD x i (EK.dflt (.pair (.int .i64) (.pair (.int .u64) (.pair (.sl (.int .u8)) (.pair (.int .i64) (.pair (.sl (.int .u32)) (.pair (.sl .str) .unit))))))))).2.2.2.2.2.1.length := rfl
      have h6 := h3 h4 h5
      have h7 := g4 (by omega)
      have e3 : tot ((List.getD x i (EK.dflt (.pair (.int .i64) (.pair (.int .u64) (.pair (.sl (.int .u8)) (.pair (.int .i64) (.pair (.sl (.int .u32)) (.pair (.sl .str) .unit))))))))).2.2.2.2.2.1 0 = 0 := rfl
      omega

theorem scribble_ws {N : Nat} {x : List OpT} {i : Int} : ∀ (d f j : Nat) (y : List Int), j + d = y.length → d < f → y.length < 1000000 → ∃ r, loopF (granarylaw01_XdrWrites_b2 N) f (x, i, (j : Int), y) = some r := by
  intro d
  induction d with
  | zero =>
    intro f j y h hf hy
    obtain ⟨f, rfl⟩ : ∃ g, f = g + 1 := ⟨f - 1, by omega⟩
    show ∃ r, granarylaw01_XdrWrites_b2 N _ _ = some r
    unfold granarylaw01_XdrWrites_b2
    dsimp only
    rw [deF (by omega), cond_false]
    exact ⟨_, rfl⟩
  | succ d ih =>
    intro f j y h hf hy
    obtain ⟨f, rfl⟩ : ∃ g, f = g + 1 := ⟨f - 1, by omega⟩
    show ∃ r, granarylaw01_XdrWrites_b2 N (loopF (granarylaw01_XdrWrites_b2 N) f) _ = some r
    have ih := fun y' hy' => ih f (j + 1) y' hy' (by omega)
    generalize loopF (granarylaw01_XdrWrites_b2 N) f = nx at ih
    unfold granarylaw01_XdrWrites_b2
    dsimp only
    rw [deT (p := (j : Int) < ((y.length : Nat) : Int)) (by omega), cond_true, deT (p := (0 : Int) ≤ (j : Int)) (by omega), Bool.and_self, cond_true, cond_true, Int.toNat_natCast, deT (p := j < y.length) (by omega), cond_true, cond_true, wrapF_i64 (by omega) (by omega)]
    exact ih _ (by rw [List.length_set]; omega) (by rw [List.length_set]; omega)

/-- What the argument's form says of one operation. -/
def OpWf (o : OpT) : Prop := (∃ v : Nat, o.2.1 = (v : Int) ∧ v < 18446744073709551616) ∧ Bts o.2.2.1 ∧ (∀ y ∈ o.2.2.2.2.1, 0 ≤ y ∧ y < 4294967296)

theorem tots_mono (x : List OpT) {i j : Nat} (h : i ≤ j) : tots x i ≤ tots x j := by
  induction j with
  | zero => have : i = 0 := by omega
            subst this; exact Nat.le_refl _
  | succ j ih =>
    by_cases e : i = j + 1
    · subst e; exact Nat.le_refl _
    · have := ih (by omega)
      show _ ≤ tots x j + _
      omega

theorem laws_loop {N : Nat} {x : List OpT} (hx : x.length ≤ 60) (ht : tots x x.length ≤ 60000) (hw : ∀ i, i < x.length → OpWf (List.getD x i (EK.dflt (.pair (.int .i64) (.pair (.int .u64) (.pair (.sl (.int .u8)) (.pair (.int .i64) (.pair (.sl (.int .u32)) (.pair (.sl .str) .unit))))))))) (hN : 300000 < N) : ∀ (d f i : Nat) (s : Int × List Int), i + d = x.length → d < f → s.2.length ≤ 2 * tots x i + 16 * i →
    ∃ r : Int × List Int, r.2.length ≤ 200000 ∧ loopF (granarylaw01_XdrWrites_b0 N) f (x, (i : Int), s.1, s.1, s.2, s.2) = some (.inr (r.1, r.1, r.2, r.2)) := by
  intro d
  induction d with
  | zero =>
    intro f i s hi hf hs
    obtain ⟨f, rfl⟩ : ∃ g, f = g + 1 := ⟨f - 1, by omega⟩
    have := tots_mono x (show i ≤ x.length by omega)
    refine ⟨s, by omega, ?_⟩
    show granarylaw01_XdrWrites_b0 N _ _ = _
    unfold granarylaw01_XdrWrites_b0
    dsimp only
    rw [deF (by omega), cond_false]
  | succ d ih =>
    intro f i s hi hf hs
    obtain ⟨f, rfl⟩ : ∃ g, f = g + 1 := ⟨f - 1, by omega⟩
    have hil : i < x.length := by omega
    obtain ⟨⟨v, ev, hv⟩, hy, hu⟩ := hw i hil
    have hm1 := tots_mono x (show i + 1 ≤ x.length by omega)
    have e : tots x (i + 1) = tots x i + opS (List.getD x i (EK.dflt (.pair (.int .i64) (.pair (.int .u64) (.pair (.sl (.int .u8)) (.pair (.int .i64) (.pair (.sl (.int .u32)) (.pair (.sl .str) .unit)))))))) := rfl
    obtain ⟨r, h1, h2⟩ := writes_ok (N := N) (k := ((List.getD x i (EK.dflt (.pair (.int .i64) (.pair (.int .u64) (.pair (.sl (.int .u8)) (.pair (.int .i64) (.pair (.sl (.int .u32)) (.pair (.sl .str) .unit))))))))).1) (M := ((List.getD x i (EK.dflt (.pair (.int .i64) (.pair (.int .u64) (.pair (.sl (.int .u8)) (.pair (.int .i64) (.pair (.sl (.int .u32)) (.pair (.sl .str) .unit))))))))).2.2.2.1) (t := ((List.getD x i (EK.dflt (.pair (.int .i64) (.pair (.int .u64) (.pair (.sl (.int .u8)) (.pair (.int .i64) (.pair (.sl (.int .u32)) (.pair (.sl .str) .unit))))))))).2.2.2.2.2.1) (s := s) (by omega) hv hy hu (show opS (List.getD x i (EK.dflt (.pair (.int .i64) (.pair (.int .u64) (.pair (.sl (.int .u8)) (.pair (.int .i64) (.pair (.sl (.int .u32)) (.pair (.sl .str) .unit)))))))) ≤ 60000 by omega) (by omega)
    have h2 : r.2.length ≤ s.2.length + 2 * opS (List.getD x i (EK.dflt (.pair (.int .i64) (.pair (.int .u64) (.pair (.sl (.int .u8)) (.pair (.int .i64) (.pair (.sl (.int .u32)) (.pair (.sl .str) .unit)))))))) + 16 := h2
    rw [← ev] at h1
    obtain ⟨r', h3, h4⟩ := ih f (i + 1) r (by omega) (by omega) (by omega)
    refine ⟨r', h3, ?_⟩
    rw [← h4]
    show granarylaw01_XdrWrites_b0 N (loopF (granarylaw01_XdrWrites_b0 N) f) _ = _
    generalize loopF (granarylaw01_XdrWrites_b0 N) f = nx
    have hyl : ((List.getD x i (EK.dflt (.pair (.int .i64) (.pair (.int .u64) (.pair (.sl (.int .u8)) (.pair (.int .i64) (.pair (.sl (.int .u32)) (.pair (.sl .str) .unit))))))))).2.2.1.length ≤ 60000 := by
      have : opS (List.getD x i (EK.dflt (.pair (.int .i64) (.pair (.int .u64) (.pair (.sl (.int .u8)) (.pair (.int .i64) (.pair (.sl (.int .u32)) (.pair (.sl .str) .unit)))))))) = ((List.getD x i (EK.dflt (.pair (.int .i64) (.pair (.int .u64) (.pair (.sl (.int .u8)) (.pair (.int .i64) (.pair (.sl (.int .u32)) (.pair (.sl .str) .unit))))))))).2.2.1.length + 8 * ((List.getD x i (EK.dflt (.pair (.int .i64) (.pair (.int .u64) (.pair (.sl (.int .u8)) (.pair (.int .i64) (.pair (.sl (.int .u32)) (.pair (.sl .str) .unit))))))))).2.2.2.2.1.length + tot ((List.getD x i (EK.dflt (.pair (.int .i64) (.pair (.int .u64) (.pair (.sl (.int .u8)) (.pair (.int .i64) (.pair (.sl (.int .u32)) (.pair (.sl .str) .unit))))))))).2.2.2.2.2.1 ((List.getD x i (EK.dflt (.pair (.int .i64) (.pair (.int .u64) (.pair (.sl (.int .u8)) (.pair (.int .i64) (.pair (.sl (.int .u32)) (.pair (.sl .str) .unit))))))))).2.2.2.2.2.1.length := rfl
      omega
    unfold granarylaw01_XdrWrites_b0
    dsimp only
    rw [deT (p := (i : Int) < ((x.length : Nat) : Int)) (by omega), cond_true, deT (p := (0 : Int) ≤ (i : Int)) (by omega), Bool.and_self, cond_true, Int.toNat_natCast]
    generalize (List.getD x i (EK.dflt (.pair (.int .i64) (.pair (.int .u64) (.pair (.sl (.int .u8)) (.pair (.int .i64) (.pair (.sl (.int .u32)) (.pair (.sl .str) .unit)))))))) = o at h1 hyl
    have hlit : (List.map (fun (b : UInt8) => (b.toNat : Int)) [114, 101, 115, 116]) = [114, 101, 115, 116] := rfl
    have htk : List.take o.2.2.1.length (o.2.2.1 ++ List.map (fun (b : UInt8) => (b.toNat : Int)) [114, 101, 115, 116]) = o.2.2.1 := List.take_left
    have hlen : (o.2.2.1 ++ List.map (fun (b : UInt8) => (b.toNat : Int)) [114, 101, 115, 116]).length = o.2.2.1.length + 4 := by rw [List.length_append]; rfl
    obtain ⟨q, hq⟩ := scribble_ws (N := N) (x := x) (i := (i : Int)) r.2.length N 0 r.2 (by omega) (by omega) (by omega)
    have hq' : granarylaw01_XdrWrites_l2 N (x, (i : Int), 0, r.2) = some q := hq
    rw [fits1 (by omega), cond_true, fits1 (by rw [hlit]; show o.2.2.1.length + 4 < 1000000; omega), cond_true, cond_true, cond_true, deT (p := (0 : Int) ≤ ((o.2.2.1.length : Nat) : Int)) (by omega), hlen, deT (p := ((o.2.2.1.length : Nat) : Int) ≤ ((o.2.2.1.length + 4 : Nat) : Int)) (by omega), Bool.and_self, cond_true, Int.toNat_natCast, Nat.zero_add, deT (p := o.2.2.1.length ≤ o.2.2.1.length + 4) (by omega), Bool.and_self, cond_true, cond_true, List.drop_zero, htk, h1, Option.bind_some]
    unfold xdr_Writer_Bytes xdr_Writer_Why_v1
    dsimp only
    rw [clone_ok (by omega), Option.bind_some, Option.bind_some]
    dsimp only
    rw [deS, Bool.not_true, cond_false, Option.bind_some]
    dsimp only
    have hmap : List.map (fun (n : Int) => UInt8.ofNat n.toNat) (o.2.2.1 ++ List.map (fun (b : UInt8) => (b.toNat : Int)) [114, 101, 115, 116]) = List.map (fun (n : Int) => UInt8.ofNat n.toNat) o.2.2.1 ++ [114, 101, 115, 116] := by
      rw [List.map_append]; rfl
    rw [show ∀ n, granarylaw01_num n = some n from fun _ => rfl, Option.bind_some, deS, Bool.not_true, cond_false, cond_true, deT (p := (List.map (fun (n : Int) => UInt8.ofNat n.toNat) o.2.2.1).length + [114, 101, 115, 116].length ≤ 9223372036854775807) (by rw [List.length_map]; show o.2.2.1.length + 4 ≤ _; omega), cond_true, hmap, deS, Bool.not_true, Option.bind_some]
    dsimp only
    rw [cond_false, hq', Option.bind_some, wrapF_i64 (n := (i : Int) + 1) (by omega) (by omega)]
    rfl

theorem sumL_mem {α : Type} {f : α → Nat} : ∀ {l : List α} {x : α}, x ∈ l → f x ≤ sumL f l
  | y :: l, x, h => by
    rcases List.mem_cons.1 h with rfl | h
    · show f x ≤ f x + _; omega
    · have := sumL_mem (f := f) h
      show f x ≤ f y + sumL f l; omega
theorem sumL_one {α : Type} {f : α → Nat} (h : ∀ x, 1 ≤ f x) : ∀ l : List α, l.length ≤ sumL f l
  | [] => Nat.le_refl _
  | y :: l => by have := sumL_one h l; have := h y; show l.length + 1 ≤ f y + sumL f l; omega

theorem bulk_op {o : OpT} (h : EK.bulk (.pair (.int .i64) (.pair (.int .u64) (.pair (.sl (.int .u8)) (.pair (.int .i64) (.pair (.sl (.int .u32)) (.pair (.sl .str) .unit)))))) o ≤ 1048576) : OpOk o := by
  have e : EK.bulk (.pair (.int .i64) (.pair (.int .u64) (.pair (.sl (.int .u8)) (.pair (.int .i64) (.pair (.sl (.int .u32)) (.pair (.sl .str) .unit)))))) o = 1 + (1 + ((sumL (EK.bulk (.int .u8)) o.2.2.1 + 1) + (1 + ((sumL (EK.bulk (.int .u32)) o.2.2.2.2.1 + 1) + ((sumL (EK.bulk .str) o.2.2.2.2.2.1 + 1) + 0))))) := rfl
  rw [e] at h
  have h1 := sumL_one (f := EK.bulk (.int .u8)) (fun _ => Nat.le_refl 1) o.2.2.1
  have h2 := sumL_one (f := EK.bulk (.int .u32)) (fun _ => Nat.le_refl 1) o.2.2.2.2.1
  have h3 := sumL_one (f := EK.bulk .str) (fun s => Nat.le_add_left 1 _) o.2.2.2.2.2.1
  have h4 : ∀ j, (o.2.2.2.2.2.1.getD j []).length ≤ 1048576 := fun j => by
    by_cases hj : j < o.2.2.2.2.2.1.length
    · rw [List.getD, List.getElem?_eq_getElem hj]
      have := sumL_mem (f := EK.bulk .str) (List.getElem_mem hj)
      have e2 : EK.bulk .str (o.2.2.2.2.2.1[j]) = (o.2.2.2.2.2.1[j]).length + 1 := rfl
      rw [e2] at this
      show (o.2.2.2.2.2.1[j]).length ≤ _
      omega
    · rw [List.getD, List.getElem?_eq_none (by omega)]
      exact Nat.zero_le _
  have h1' : o.2.2.1.length ≤ sumL (EK.bulk (.int .u8)) o.2.2.1 := h1
  have h2' : o.2.2.2.2.1.length ≤ sumL (EK.bulk (.int .u32)) o.2.2.2.2.1 := h2
  have h3' : o.2.2.2.2.2.1.length ≤ sumL (EK.bulk .str) o.2.2.2.2.2.1 := h3
  exact ⟨by omega, by omega, h4, by omega⟩

theorem wf_u32s {l : List Int} (h : EK.wf (.sl (.int .u32)) l) : ∀ x ∈ l, 0 ≤ x ∧ x < 4294967296 := fun x hx => by
  obtain ⟨m, e, h2⟩ := wf_u32 (h.2 x hx)
  omega

theorem xdrWrites (x : EKs [(.sl (.pair (.int .i64) (.pair (.int .u64) (.pair (.sl (.int .u8)) (.pair (.int .i64) (.pair (.sl (.int .u32)) (.pair (.sl .str) .unit)))))))]) (hw : wfs [(.sl (.pair (.int .i64) (.pair (.int .u64) (.pair (.sl (.int .u8)) (.pair (.int .i64) (.pair (.sl (.int .u32)) (.pair (.sl .str) .unit)))))))] x) (hb : bulks [(.sl (.pair (.int .i64) (.pair (.int .u64) (.pair (.sl (.int .u8)) (.pair (.int .i64) (.pair (.sl (.int .u32)) (.pair (.sl .str) .unit)))))))] x ≤ 1048576) : ∃ N, granarylaw01_XdrWrites N x = some true := by
  refine ⟨4000000, ?_⟩
  have hb : sumL (EK.bulk (.pair (.int .i64) (.pair (.int .u64) (.pair (.sl (.int .u8)) (.pair (.int .i64) (.pair (.sl (.int .u32)) (.pair (.sl .str) .unit))))))) x + 1 ≤ 1048576 := hb
  have hw : ∀ o ∈ (x : List OpT), EK.wf (.pair (.int .i64) (.pair (.int .u64) (.pair (.sl (.int .u8)) (.pair (.int .i64) (.pair (.sl (.int .u32)) (.pair (.sl .str) .unit)))))) o := hw.2
  change List OpT at x
  have hlen := sumL_one (f := EK.bulk (.pair (.int .i64) (.pair (.int .u64) (.pair (.sl (.int .u8)) (.pair (.int .i64) (.pair (.sl (.int .u32)) (.pair (.sl .str) .unit))))))) (fun o => by show 1 ≤ 1 + _; omega) x
  have hlen : x.length ≤ sumL (EK.bulk (.pair (.int .i64) (.pair (.int .u64) (.pair (.sl (.int .u8)) (.pair (.int .i64) (.pair (.sl (.int .u32)) (.pair (.sl .str) .unit))))))) x := hlen
  have hget : ∀ i, i < x.length → (List.getD x i (EK.dflt (.pair (.int .i64) (.pair (.int .u64) (.pair (.sl (.int .u8)) (.pair (.int .i64) (.pair (.sl (.int .u32)) (.pair (.sl .str) .unit)))))))) ∈ x := fun i hi => by
    rw [List.getD, List.getElem?_eq_getElem hi]
    exact List.getElem_mem hi
  have hok : ∀ i, i < x.length → OpOk (List.getD x i (EK.dflt (.pair (.int .i64) (.pair (.int .u64) (.pair (.sl (.int .u8)) (.pair (.int .i64) (.pair (.sl (.int .u32)) (.pair (.sl .str) .unit)))))))) := fun i hi => bulk_op (by have := sumL_mem (f := EK.bulk (.pair (.int .i64) (.pair (.int .u64) (.pair (.sl (.int .u8)) (.pair (.int .i64) (.pair (.sl (.int .u32)) (.pair (.sl .str) .unit))))))) (hget i hi); omega)
  have hwf : ∀ i, i < x.length → OpWf (List.getD x i (EK.dflt (.pair (.int .i64) (.pair (.int .u64) (.pair (.sl (.int .u8)) (.pair (.int .i64) (.pair (.sl (.int .u32)) (.pair (.sl .str) .unit)))))))) := fun i hi => by
    have h := hw _ (hget i hi)
    exact ⟨wf_u64 h.2.1, wf_bytes h.2.2.1, wf_u32s h.2.2.2.2.1⟩
  obtain ⟨m, g1, g2, g3⟩ := outer_ok (N := 4000000) (x := x) (by omega) hok (by decide) (min x.length 61) 4000000 0 0 (by omega) (by omega) (by omega)
  have g1' : granarylaw01_huge_l0 4000000 (x, 0, 0) = some (m : Int) := g1
  unfold granarylaw01_XdrWrites granarylaw01_huge
  rw [g1', Option.bind_some]
  by_cases c1 : 60 < x.length
  · rw [deT (p := (60 : Int) < ((x.length : Nat) : Int)) (by omega), cond_true, Option.bind_some, Option.bind_some, cond_true, xdr_live_ws]
    rfl
  rw [deF (p := (60 : Int) < ((x.length : Nat) : Int)) (by omega), cond_false, Option.bind_some, Option.bind_some]
  by_cases c2 : 60000 < m
  · rw [deT (p := (60000 : Int) < (m : Int)) (by omega), cond_true, xdr_live_ws]
    rfl
  rw [deF (p := (60000 : Int) < (m : Int)) (by omega), cond_false, show xdr_NewWriter () = some () from rfl, Option.bind_some]
  have h0 := g3 (by omega) (by omega)
  have e0 : tots x 0 = 0 := rfl
  obtain ⟨r, r1, r2⟩ := laws_loop (N := 4000000) (x := x) (by omega) (by omega) hwf (by decide) x.length 4000000 0 (0, []) (by omega) (by omega) (by show 0 ≤ _; omega)
  have r2' : granarylaw01_XdrWrites_l0 4000000 (x, 0, 0, 0, [], []) = some (.inr (r.1, r.1, r.2, r.2)) := r2
  rw [r2', Option.bind_some]
  unfold xdr_Writer_Bytes
  dsimp only
  rw [clone_ok (by omega), Option.bind_some, Option.bind_some]
  dsimp only
  rw [deS, cond_true, xdr_live_ws]
  rfl

end Go.Rf.W.Pure

