/-
  ShaPieces, plain: pieces have no part; climbing leads to the root.
-/
import Derived.Test.YtokfelhleojnjaaShaFShaPieces
import Derived.Test.YtokfelhleojnjaaPlShaP
import Derived.Test.YtokfelhleojnjaaRfC
set_option linter.unusedVariables false
set_option maxRecDepth 10000
namespace Go.Rf.W.Pure
open Go Go.Rf Go.Rf.W Go.Rf.W.Sha

theorem take_take {p : List Int} {a m : Nat} (h : a + m ≤ p.length) : p.take a ++ (List.take m (List.drop a p)) = p.take (a + m) := by
  rw [List.take_add]

theorem bt_take {p : List Int} (h : Bt p) (k : Nat) : Bt (p.take k) := fun x hx => h x (List.mem_of_mem_take hx)
theorem bt_drop {p : List Int} (h : Bt p) (k : Nat) : Bt (p.drop k) := fun x hx => h x (List.mem_of_mem_drop hx)

theorem pieces_loop {N : Nat} (hN : 100000 < N) {p cuts : List Int} {l : List (List Int)} {i : Int} (hp : Bt p) (hl : p.length ≤ 9000) (hc : cuts.length ≤ 60) (hcb : ∀ c ∈ cuts, -9223372036854775808 ≤ c ∧ c < 9223372036854775808) :
    ∀ (d k f a : Nat), k + d = cuts.length → d < f → a ≤ p.length →
    ∃ a' : Nat, a' ≤ p.length ∧ loopF (granarylaw05_ShaPieces_b0 N) f (p, cuts, l, i, (a : Int), ((crcOf (p.take a) : Nat) : Int), (k : Int), stA (p.take a), (a : Int), stR (p.take a)) =
      some (.inr ((a' : Int), ((crcOf (p.take a') : Nat) : Int), stA (p.take a'), (a' : Int), stR (p.take a'))) := by
  intro d
  induction d with
  | zero =>
    intro k f a hk hf ha
    obtain ⟨f, rfl⟩ : ∃ g, f = g + 1 := ⟨f - 1, by omega⟩
    refine ⟨a, ha, ?_⟩
    show granarylaw05_ShaPieces_b0 N _ _ = _
    unfold granarylaw05_ShaPieces_b0
    dsimp only
    rw [deF (p := (k : Int) < ((cuts.length : Nat) : Int)) (by omega), cond_false]
  | succ d ih =>
    intro k f a hk hf ha
    obtain ⟨f, rfl⟩ : ∃ g, f = g + 1 := ⟨f - 1, by omega⟩
    have hkl : k < cuts.length := by omega
    have hcv : -9223372036854775808 ≤ cuts.getD k 0 ∧ cuts.getD k 0 < 9223372036854775808 := by
      rw [List.getD, List.getElem?_eq_getElem hkl]; exact hcb _ (List.getElem_mem _)
    have ih' := fun a' => ih (k + 1) f a' (by omega) (by omega)
    show ∃ a' : Nat, a' ≤ p.length ∧ granarylaw05_ShaPieces_b0 N (loopF (granarylaw05_ShaPieces_b0 N) f) _ = _
    generalize loopF (granarylaw05_ShaPieces_b0 N) f = nx at ih'
    unfold granarylaw05_ShaPieces_b0
    dsimp only
    rw [deT (p := (k : Int) < ((cuts.length : Nat) : Int)) (by omega), deT (p := (0 : Int) ≤ (k : Int)) (by omega), Bool.and_self]
    simp only [cond_true, Int.toNat_natCast]
    rw [show (EK.dflt (.int .i64)) = (0 : Int) from rfl]
    have e1 : wrapF .i64 (((p.length : Nat) : Int) - (a : Int)) = ((p.length - a : Nat) : Int) := by rw [wrapF_i64 (by omega) (by omega)]; omega
    have e2 : wrapF .i64 ((k : Int) + 1) = ((k + 1 : Nat) : Int) := by rw [wrapF_i64 (by omega) (by omega)]; omega
    rw [e1, e2]
    by_cases hs : cuts.getD k 0 < 0 ∨ ((p.length - a : Nat) : Int) < cuts.getD k 0
    · have hr : (cond (decide (cuts.getD k 0 < 0)) (some true) (some (decide (((p.length - a : Nat) : Int) < cuts.getD k 0)))) = some true := by
        by_cases h0 : cuts.getD k 0 < 0
        · rw [deT h0]; rfl
        · rw [deF h0, cond_false, deT (by omega)]
      rw [hr, Option.bind_some, cond_true, Option.bind_some]
      obtain ⟨a', h1, h2⟩ := ih' a ha
      exact ⟨a', h1, h2⟩
    · have hr : (cond (decide (cuts.getD k 0 < 0)) (some true) (some (decide (((p.length - a : Nat) : Int) < cuts.getD k 0)))) = some false := by
        rw [deF (by omega), cond_false, deF (by omega)]
      obtain ⟨m, hm⟩ : ∃ m : Nat, cuts.getD k 0 = (m : Int) := ⟨(cuts.getD k 0).toNat, by omega⟩
      have hm2 : a + m ≤ p.length := by omega
      have e3 : wrapF .i64 ((a : Int) + (m : Int)) = ((a + m : Nat) : Int) := by rw [wrapF_i64 (by omega) (by omega)]; omega
      have hla : (p.take a).length = a := by rw [List.length_take]; omega
      have hlm : (p.take (a + m)).length = a + m := by rw [List.length_take]; omega
      have hlq : (List.take m (List.drop a p)).length = m := by rw [List.length_take, List.length_drop]; omega
      have w := write_st (N := N) (p := p.take a) (q := List.take m (List.drop a p)) (by omega) (by omega)
      rw [take_take hm2, hla, hlm] at w
      have mo := more_st (N := N) (p := p.take a) (q := List.take m (List.drop a p)) (bt_take hp a) (bt_take (bt_drop hp a) m) (by omega) hN
      rw [take_take hm2] at mo
      have sv := save_ok (N := N) (p := p.take (a + m)) (by omega) (by omega)
      have ld := load_ok (N := N) (p := p.take (a + m)) (by omega) (by omega)
      have sm := sum_st (N := N) (p := p.take (a + m)) (by omega)
      rw [hlm] at sv ld sm
      have t1 : (0 : Int) ≤ (a : Int) := by omega
      have t2 : (a : Int) ≤ ((a + m : Nat) : Int) := by omega
      have t3 : ((a + m : Nat) : Int) ≤ ((p.length : Nat) : Int) := by omega
      have t4 : (0 : Int) ≤ ((a + m : Nat) : Int) := by omega
      rw [hr, Option.bind_some, cond_false]
      simp only [hm, e3, t1, t2, t3, t4, decide_true, Bool.and_self, cond_true, Int.toNat_natCast, Nat.add_sub_cancel_left, List.drop_zero]
      rw [write4_eq, w, Option.bind_some]
      dsimp only
      rw [mo, Option.bind_some, sv, Option.bind_some]
      dsimp only
      rw [ld, Option.bind_some]
      dsimp only
      unfold granarylaw05_num
      rw [Option.bind_some, deS, Bool.not_true, cond_false, sm, Option.bind_some, sum1_eq, Sum_ok (by omega) (by omega), Option.bind_some, deS, Bool.not_true, cond_false, Option.bind_some]
      obtain ⟨a', h1, h2⟩ := ih' (a + m) hm2
      exact ⟨a', h1, h2⟩

theorem shaPieces (x : EKs [(.sl (.int .u8)), (.sl (.int .i64)), (.sl (.arr 32 (.int .u8))), (.int .i64)]) (hw : wfs [(.sl (.int .u8)), (.sl (.int .i64)), (.sl (.arr 32 (.int .u8))), (.int .i64)] x) : ∃ N, granarylaw05_ShaPieces N (x.1, x.2.1, x.2.2.1, x.2.2.2) = some true := by
  obtain ⟨p, cuts, l, i⟩ := x
  obtain ⟨h1, h2, h3, h4⟩ := hw
  have hp : Bt p := wf_bytes h1
  have hcb : ∀ c ∈ cuts, -9223372036854775808 ≤ c ∧ c < 9223372036854775808 := fun c hc => wf_i64 (h2.2 c hc)
  have hd : Dg l := fun y hy => (h3.2 y hy).1
  refine ⟨3000000, ?_⟩
  generalize hN : 3000000 = N
  have hN1 : 2000000 < N := by omega
  clear hN
  unfold granarylaw05_ShaPieces
  dsimp only
  have hlv := live_ok (N := N) (by omega)
  by_cases c0 : 9000 < List.length p
  · rw [deT (p := (9000 : Int) < ((List.length p : Nat) : Int)) (by omega), cond_true, Option.bind_some, cond_true, hlv]; rfl
  rw [deF (p := (9000 : Int) < ((List.length p : Nat) : Int)) (by omega), cond_false]
  by_cases c1 : 60 < List.length cuts
  · rw [deT (p := (60 : Int) < ((List.length cuts : Nat) : Int)) (by omega), cond_true, Option.bind_some, cond_true, hlv]; rfl
  rw [deF (p := (60 : Int) < ((List.length cuts : Nat) : Int)) (by omega), cond_false, Option.bind_some]
  by_cases c2 : 60 < List.length l
  · rw [deT (p := (60 : Int) < ((List.length l : Nat) : Int)) (by omega), cond_true, hlv]; rfl
  rw [deF (p := (60 : Int) < ((List.length l : Nat) : Int)) (by omega), cond_false, init_eq, Option.bind_some]
  obtain ⟨a, ha, hlp⟩ := pieces_loop (N := N) (by omega) (l := l) (i := i) hp (by omega) (by omega) hcb (List.length cuts) 0 N 0 (by omega) (by omega) (by omega)
  have hlp' : granarylaw05_ShaPieces_l0 N (p, cuts, l, i, 0, 0, 0, init, 0, []) = some (.inr ((a : Int), ((crcOf (p.take a) : Nat) : Int), stA (p.take a), (a : Int), stR (p.take a))) := by
    have e0 : ((crcOf [] : Nat) : Int) = 0 := by
      show ((Sha.flip (Sha.flip 0) : Nat) : Int) = 0
      rw [Sha.flip_flip]; rfl
    have e1 : stA [] = init := rfl
    have e2 : stR [] = [] := rfl
    rw [List.take_zero, e0, e1, e2] at hlp
    exact hlp
  have hla : (List.take a p).length = a := by rw [List.length_take]; omega
  have tk : List.take (List.length p - a) (List.drop a p) = List.drop a p := List.take_of_length_le (by simp)
  have w := write_st (N := N) (p := List.take a p) (q := List.drop a p) (by simp; omega) (by omega)
  rw [List.take_append_drop, hla] at w
  have mo := more_st (N := N) (p := List.take a p) (q := List.drop a p) (bt_take hp a) (bt_drop hp a) (by simp; omega) (by omega)
  rw [List.take_append_drop] at mo
  have sm := sum_st (N := N) (p := p) (by omega)
  rw [hlp', Option.bind_some]
  dsimp only
  rw [deT (p := (0 : Int) ≤ (a : Int)) (by omega), deT (p := (a : Int) ≤ ((List.length p : Nat) : Int)) (by omega), deT (p := ((List.length p : Nat) : Int) ≤ ((List.length p : Nat) : Int)) (by omega)]
  simp only [Bool.and_self, cond_true, Int.toNat_natCast]
  rw [tk, write4_eq, w, Option.bind_some]
  dsimp only
  rw [sm, Option.bind_some, sum1_eq, Sum_ok (by omega) (by omega), Option.bind_some]
  dsimp only
  rw [deS, Bool.not_true, cond_false, mo, Option.bind_some, Crc1_ok hp (by omega) (by omega), Option.bind_some]
  have ec : (((Sha.flip (crc (Sha.flip 0) p)) : Nat) : Int) = ((crcOf p : Nat) : Int) := rfl
  rw [ec, deS, Bool.not_true, cond_false]
  unfold sha_Hash_Len_v1
  rw [Option.bind_some]
  dsimp only
  rw [wrapF_u64 (n := ((List.length p : Nat) : Int)) (by omega) (by omega), deS, Bool.not_true, Option.bind_some]
  dsimp only
  rw [cond_false]
  by_cases i0 : i < 0
  · rw [deT i0, cond_true, Option.bind_some, cond_true, hlv]; rfl
  rw [deF i0, cond_false, Option.bind_some]
  by_cases i1 : ((List.length l : Nat) : Int) ≤ i
  · rw [deT i1, cond_true, hlv]; rfl
  have i2 : (0 : Int) ≤ i := Int.not_lt.1 i0
  obtain ⟨j, rfl⟩ : ∃ j : Nat, i = (j : Int) := ⟨Int.toNat i, (Int.toNat_of_nonneg i2).symm⟩
  have hj : j < List.length l := by
    have := Int.not_le.1 i1
    omega
  obtain ⟨q1, q2⟩ := climb_root (N := N) N l j (by omega) (by omega) hj
  have q3 := pth_len (R := rt N) N l (j : Int) (by omega)
  have q4 := pth_dg (N := N) N l (j : Int) (by omega) (by omega) hd
  have q5 := pth_ok (R := rt N) (f := N) hj (by omega)
  have hg := hd.get hj
  have pp : sha_Path_v1 N (l, (j : Int)) = some (pth (rt N) N l (j : Int)) := path1_ok (by omega) N l (j : Int) (by omega) hd (by omega)
  have cl := Climb_ok (N := N) hN1 (d := l.getD j z32) (i := (j : Int)) (n := ((List.length l : Nat) : Int)) (p := (pth (rt N) N l (j : Int)).2) hg (by omega) q4
  unfold climbS at cl
  rw [if_neg (by omega), Int.toNat_natCast, Int.toNat_natCast, if_pos q1, q2] at cl
  rw [deF i1, cond_false, pp, Option.bind_some, deT (p := (0 : Int) ≤ (j : Int)) (by omega), deT (p := (j : Int) < ((List.length l : Nat) : Int)) (by omega), Bool.and_self, cond_true, Int.toNat_natCast, show (EK.dflt (.arr 32 (.int .u8))) = z32 from rfl, climb1_eq, cl, Option.bind_some, q5]
  unfold granarylaw05_num
  rw [Option.bind_some, deS, cond_true, Option.bind_some, deS, cond_true, Root1_ok (by omega) (by omega) hd, Option.bind_some, deS, cond_true, hlv]
  rfl

end Go.Rf.W.Pure
