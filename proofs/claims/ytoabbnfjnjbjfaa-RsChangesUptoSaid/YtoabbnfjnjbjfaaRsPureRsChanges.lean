/-
  A change, bytes that are turned, sums: the plain law.
-/
import Derived.Test.YtoabbnfjnjbjfaaRsFRsChanges
import Derived.Test.YtoabbnfjnjbjfaaPlRsLaw
import Derived.Test.YtoabbnfjnjbjfaaPlRsChg
set_option linter.unusedVariables false
set_option linter.unusedSimpArgs false
set_option maxRecDepth 100000
namespace Go.Rf.W.Pure
open Go Go.Rf Go.Rf.W Go.Rf.Lin

/-! The law's loops -/

theorem chg_l2 {N n j : Nat} (hN : n + 100 ≤ N) (hn : n ≤ 4096) {k : Nat} {B : List (List Int)} {t : Nat → Nat → G} (hB : Mat k n B t) (hj : j < k) (a1 a2 : Int) (a3 : List Int) (A X Y : List (List Int)) :
    ∀ (d f q : Nat) (O : List Int) (o : Nat → G), q + d = n → d < f → Vec n O o → ∃ O', loopF (granarylaw03_RsChanges_b2 N) f (a1, a2, a3, A, B, X, Y, (j : Int), (q : Int), O) = some O' ∧ Vec n O' (fun x => if q ≤ x then o x + t j x else o x) := by
  intro d
  induction d with
  | zero =>
    intro f q O o hq hf hO
    obtain ⟨f, rfl⟩ : ∃ g, f = g + 1 := ⟨f - 1, by omega⟩
    have : q = n := by omega
    subst this
    have hlO := hO.len
    have z1 : ¬ ((q : Int) < ((O.length : Nat) : Int)) := by omega
    exact ⟨O, by simp only [loopF, granarylaw03_RsChanges_b2, dF z1, cond_false], hO.congr (fun x hx => by rw [if_neg (by omega)])⟩
  | succ d ih =>
    intro f q O o hq hf hO
    obtain ⟨f, rfl⟩ : ∃ g, f = g + 1 := ⟨f - 1, by omega⟩
    have hqn : q < n := by omega
    obtain ⟨O', e1, e2⟩ := ih f (q + 1) _ _ (by omega) (by omega) (hO.set hqn (o q + t j q))
    refine ⟨O', ?_, e2.congr (fun x hx => ?_)⟩
    · rw [← e1]
      have hlO := hO.len
      have hlB := hB.len
      have hrow := hB.getK hj
      have hlr := hrow.len
      have z1 : (q : Int) < ((O.length : Nat) : Int) := by omega
      have z2 : (0 : Int) ≤ (q : Int) := by omega
      have z3 : q < O.length := by omega
      have z4 : (0 : Int) ≤ (j : Int) := by omega
      have z5 : (j : Int) < ((B.length : Nat) : Int) := by omega
      have z6 : (q : Int) < (((List.getD B j (EK.dflt (.sl (.int .u8)))).length : Nat) : Int) := by omega
      show granarylaw03_RsChanges_b2 N (loopF (granarylaw03_RsChanges_b2 N) f) _ = _
      generalize loopF (granarylaw03_RsChanges_b2 N) f = nx
      unfold granarylaw03_RsChanges_b2
      dsimp only
      simp only [dT z1, dT z2, dT z3, dT z4, dT z5, dT z6, Bool.and_self, cond_true, Int.toNat_natCast, hrow.getK hqn, hO.getK hqn, xorG, wrap_succ (show q ≤ 1000000 by omega)]
    · by_cases h4 : x = q
      · subst h4; simp [Nat.not_le.2 (Nat.lt_succ_self x)]
      · have : (q + 1 ≤ x) = (q ≤ x) := propext (by omega)
        simp [this, h4]

theorem chg_l0 {N n k : Nat} (hN : n + 200 ≤ N) (hn : n ≤ 4096) (hk2 : k ≤ 16) {A B : List (List Int)} {s t : Nat → Nat → G} (hA : Mat k n A s) (hB : Mat k n B t) (a2 : Int) (a3 : List Int) (X Y : List (List Int)) :
    ∃ Z, granarylaw03_RsChanges_l0 N ((k : Int), a2, a3, A, B, X, Y, 0, []) = some Z ∧ Mat k n Z (fun i x => s i x + t i x) := by
  have e0 : ((0 : Nat) : Int) = 0 := rfl
  have hlA := hA.len
  obtain ⟨Z, h1, h2⟩ := it_ex (b := granarylaw03_RsChanges_b0 N) (fun j a => ∃ O, a = ((k : Int), a2, a3, A, B, X, Y, (j : Int), O) ∧ Mat j n O (fun i x => s i x + t i x)) k (Q := fun Z => Mat k n Z (fun i x => s i x + t i x)) (fun j a hj ha => by
    obtain ⟨O, rfl, hO⟩ := ha
    have hlO := hO.len
    have hrow := hA.getK hj
    obtain ⟨R, r1, r2⟩ := chg_l2 (N := N) (by omega) hn hB hj (k : Int) a2 a3 A X Y n N 0 _ _ (by omega) (by omega) hrow
    rw [e0] at r1
    refine ⟨_, ⟨O ++ [R], rfl, (hO.append r2).congr (fun a ha x hx => ?_)⟩, fun nx => ?_⟩
    · by_cases h : a = j
      · subst h; rw [if_pos rfl, if_pos (Nat.zero_le _)]
      · rw [if_neg h]
    · have z1 : (j : Int) < (k : Int) := by omega
      have z2 : (0 : Int) ≤ (j : Int) := by omega
      have z3 : (j : Int) < ((A.length : Nat) : Int) := by omega
      have f1 : fits 1 (List.getD A j (EK.dflt (.sl (.int .u8)))).length = true := by rw [hrow.len]; simp [fits]; omega
      have f2 : fits 24 (O.length + [R].length) = true := by simp [fits]; omega
      unfold granarylaw03_RsChanges_b0
      dsimp only
      rw [dT z1, cond_true, dT z2, dT z3, Bool.and_self, cond_true, Int.toNat_natCast, f1, cond_true, granarylaw03_RsChanges_l2, r1, Option.bind_some, f2, cond_true, wrap_succ (show j ≤ 1000000 by omega)]) (fun a ha => by
    obtain ⟨O, rfl, hO⟩ := ha
    have z1 : ¬ ((k : Int) < (k : Int)) := by omega
    refine ⟨O, hO, fun nx => ?_⟩
    unfold granarylaw03_RsChanges_b0
    dsimp only
    rw [dF z1, cond_false]) N ((k : Int), a2, a3, A, B, X, Y, ((0 : Nat) : Int), []) (by omega) ⟨[], rfl, Mat.nil _ _⟩
  rw [e0] at h1
  exact ⟨Z, h1, h2⟩

theorem chg_l6 {N n m r : Nat} (hN : n + 100 ≤ N) (hn : n ≤ 4096) {X Y Z : List (List Int)} {u v : Nat → Nat → G} (hX : Mat m n X u) (hY : Mat m n Y v) (hZ : Mat m n Z (fun i x => u i x + v i x)) (hr : r < m) (a1 a2 : Int) (a3 : List Int) (A : List (List Int)) :
    granarylaw03_RsChanges_l6 N (a1, a2, a3, A, X, Y, (r : Int), 0, Z) = some (.inr Z) := by
  have key : granarylaw03_RsChanges_l6 N (a1, a2, a3, A, X, Y, (r : Int), ((0 : Nat) : Int), Z) = some (.inr Z) := by
    rw [granarylaw03_RsChanges_l6]
    have hlX := hX.len
    have hlY := hY.len
    have hlZ := hZ.len
    have rX := hX.getK hr
    have rY := hY.getK hr
    have rZ := hZ.getK hr
    have lX := rX.len
    have lY := rY.len
    have lZ := rZ.len
    have z0 : (0 : Int) ≤ (r : Int) := by omega
    have z1 : (r : Int) < ((Z.length : Nat) : Int) := by omega
    have z2 : r < Z.length := by omega
    have z3 : (r : Int) < ((X.length : Nat) : Int) := by omega
    have z4 : (r : Int) < ((Y.length : Nat) : Int) := by omega
    refine it_st (b := granarylaw03_RsChanges_b6 N) (fun t => (a1, a2, a3, A, X, Y, (r : Int), ((t : Nat) : Int), Z)) n (fun t ht nx => ?_) (fun nx => ?_) N (by omega)
    · have y1 : (t : Int) < (((List.getD Z r (EK.dflt (.sl (.int .u8)))).length : Nat) : Int) := by omega
      have y2 : (t : Int) < (((List.getD X r (EK.dflt (.sl (.int .u8)))).length : Nat) : Int) := by omega
      have y3 : (t : Int) < (((List.getD Y r (EK.dflt (.sl (.int .u8)))).length : Nat) : Int) := by omega
      have y4 : (0 : Int) ≤ (t : Int) := by omega
      unfold granarylaw03_RsChanges_b6
      dsimp only
      simp only [dT z0, dT z1, dT z2, dT z3, dT z4, dT y1, dT y2, dT y3, dT y4, Bool.and_self, cond_true, Int.toNat_natCast, rX.getK ht, rY.getK ht, rZ.getK ht, xorG, decide_true, Bool.not_true, cond_false, wrap_succ (show t ≤ 1000000 by omega)]
    · have y1 : ¬ ((n : Int) < (((List.getD Z r (EK.dflt (.sl (.int .u8)))).length : Nat) : Int)) := by omega
      unfold granarylaw03_RsChanges_b6
      dsimp only
      simp only [dT z0, dT z1, dT z2, dF y1, Bool.and_self, cond_true, cond_false, Int.toNat_natCast]
  exact key

theorem chg_l4 {N n m : Nat} (hN : n + 200 ≤ N) (hn : n ≤ 4096) (hm : m ≤ 8) {X Y Z : List (List Int)} {u v : Nat → Nat → G} (hX : Mat m n X u) (hY : Mat m n Y v) (hZ : Mat m n Z (fun i x => u i x + v i x)) (a1 : Int) (a3 : List Int) (A : List (List Int)) :
    granarylaw03_RsChanges_l4 N (a1, (m : Int), a3, A, X, Y, 0, Z) = some (.inr Z) := by
  have key : granarylaw03_RsChanges_l4 N (a1, (m : Int), a3, A, X, Y, ((0 : Nat) : Int), Z) = some (.inr Z) := by
    rw [granarylaw03_RsChanges_l4]
    refine it_st (b := granarylaw03_RsChanges_b4 N) (fun r => (a1, (m : Int), a3, A, X, Y, ((r : Nat) : Int), Z)) m (fun r hr nx => ?_) (fun nx => ?_) N (by omega)
    · have y1 : (r : Int) < (m : Int) := by omega
      unfold granarylaw03_RsChanges_b4
      dsimp only
      rw [dT y1, cond_true, chg_l6 (by omega) hn hX hY hZ hr, Option.bind_some]
      dsimp only
      rw [wrap_succ (show r ≤ 1000000 by omega)]
    · have y1 : ¬ ((m : Int) < (m : Int)) := by omega
      unfold granarylaw03_RsChanges_b4
      dsimp only
      rw [dF y1, cond_false]
  exact key

theorem sum_one2 {k c : Nat} (hc : c < k) (f g : Nat → G) (h : ∀ l, l < k → l ≠ c → f l = g l) : sum k f = sum k g + (f c + g c) := by
  have e : sum k (fun l => f l + g l) = f c + g c := sum_one hc _ (fun l hl hne => by rw [h l hl hne, G.add_self])
  rw [← e, sum_add, G.add_comm (sum k f), ← G.add_assoc, G.add_self, G.zero_add]

theorem encode_long' {N k m n : Nat} (hN : 200 ≤ N) (hn : 4096 < n) (hk : 1 ≤ k) (hk2 : k ≤ 16) {S : List (List Int)} {s : Nat → Nat → G} (hS : Mat k n S s) : rs_Code_Encode N (S, (k : Int), (m : Int), rowsF k m) = some (1, (k : Int), (m : Int), rowsF k m, []) := by
  have hl := hS.len
  unfold rs_Code_Encode
  dsimp only
  rw [dT (show ((S.length : Nat) : Int) = (k : Int) by omega), Bool.not_true, cond_false, even_ok (K := k) (by omega) (by omega) (by omega) hS, if_neg (by omega), Option.bind_some]
  rfl

theorem rsChanges (x : EKs [(.int .i64), (.int .i64), (.sl (.int .u8)), (.sl (.int .u8)), (.int .i64), (.sl (.int .i64))]) (hw : wfs [(.int .i64), (.int .i64), (.sl (.int .u8)), (.sl (.int .u8)), (.int .i64), (.sl (.int .i64))] x) (hb : bulks [(.int .i64), (.int .i64), (.sl (.int .u8)), (.sl (.int .u8)), (.int .i64), (.sl (.int .i64))] x ≤ 1048576) : ∃ N, granarylaw03_RsChanges N (x.1, x.2.1, x.2.2.1, x.2.2.2.1, x.2.2.2.2.1, x.2.2.2.2.2) = some true := by
  obtain ⟨k, m, P, Q, c, Ls⟩ := x
  change Int at k m c
  change List Int at P Q Ls
  have hP := wf_bytes (l := P) hw.2.2.1
  have hQ := wf_bytes (l := Q) hw.2.2.2.1
  refine ⟨20000, ?_⟩
  show granarylaw03_RsChanges 20000 (k, m, P, Q, c, Ls) = some true
  rcases both_cases k m with hbo | ⟨k, m, rfl, rfl, hk, hk2, hm, hbo⟩
  · unfold granarylaw03_RsChanges
    dsimp only
    rw [hbo, Option.bind_some, rs_liveN]
    dsimp only
    cases decide ((9000 : Int) < ((P.length : Nat) : Int))
    · cases decide (((Q.length : Nat) : Int) < ((P.length : Nat) : Int))
      · cases decide ((9000 : Int) < ((Q.length : Nat) : Int))
        · cases decide ((30 : Int) < ((Ls.length : Nat) : Int)) <;> rfl
        · rfl
      · rfl
    · rfl
  unfold granarylaw03_RsChanges
  dsimp only
  rw [hbo, Option.bind_some, rs_liveN]
  dsimp only
  rw [Bool.not_true, cond_false]
  by_cases g1 : (9000 : Int) < ((P.length : Nat) : Int)
  · rw [dT g1]; rfl
  rw [dF g1, cond_false]
  by_cases g2 : ((Q.length : Nat) : Int) < ((P.length : Nat) : Int)
  · rw [dT g2]; rfl
  rw [dF g2, cond_false]
  by_cases g3 : (9000 : Int) < ((Q.length : Nat) : Int)
  · rw [dT g3]; rfl
  rw [dF g3, cond_false]
  by_cases g4 : (30 : Int) < ((Ls.length : Nat) : Int)
  · rw [dT g4]; rfl
  rw [dF g4, cond_false]
  by_cases g5 : c < 0
  · rw [dT g5]; rfl
  rw [dF g5, cond_false]
  obtain ⟨c, rfl⟩ : ∃ a : Nat, c = a := ⟨c.toNat, by omega⟩
  have z1 : (0 : Int) ≤ ((P.length : Nat) : Int) := by omega
  have z2 : ((P.length : Nat) : Int) ≤ ((Q.length : Nat) : Int) := by omega
  obtain ⟨A, s, a1, a2⟩ := shards_ok (N := 20000) (by omega) hk hk2 hP (by omega)
  have hQl : (List.take P.length Q).length = P.length := by simp; omega
  obtain ⟨B, t, b1, b2⟩ := shards_ok (N := 20000) (P := List.take P.length Q) (by omega) hk hk2 (fun x hx => hQ x (List.mem_of_mem_take hx)) (by omega)
  rw [hQl] at b2
  obtain ⟨n, hn⟩ : ∃ n, P.length / k = n := ⟨_, rfl⟩
  rw [hn] at a2 b2
  have hlA := a2.len
  have hlB := b2.len
  have z3 : (0 : Int) < ((A.length : Nat) : Int) := by omega
  rw [a1, Option.bind_some, dT z1, dT z2, Bool.and_self, cond_true, Int.toNat_natCast, List.drop_zero, b1, Option.bind_some]
  by_cases hn2 : 4096 < n
  · have z4 : (4096 : Int) < ((List.length (List.getD A 0 (EK.dflt (.sl (.int .u8)))) : Nat) : Int) := by
      have := (a2.getK (show 0 < k by omega)).len
      omega
    rw [encode_long' (by omega) hn2 hk hk2 a2, Option.bind_some]
    dsimp only
    rw [encode_long' (by omega) hn2 hk hk2 b2, Option.bind_some]
    dsimp only
    rw [numN, Option.bind_some, dF (show ¬ ((1 : Int) = 0) by omega), Bool.not_false, cond_true, Option.bind_some, cond_true, dT z3, cond_true, dT z4]
    rfl
  have hn3 : n ≤ 4096 := by omega
  obtain ⟨X, x1, x2⟩ := encode_ok (N := 20000) (by omega) hn3 hk hk2 hm a2
  obtain ⟨Y, y1, y2⟩ := encode_ok (N := 20000) (by omega) hn3 hk hk2 hm b2
  obtain ⟨q, hq⟩ : ∃ q, c % k = q := ⟨_, rfl⟩
  have hqk : q < k := by rw [← hq]; exact Nat.mod_lt _ (by omega)
  have w1 : Int.tmod (c : Int) (k : Int) = (q : Int) := by rw [← hq]; rfl
  have rA := a2.row q hqk
  have rB := b2.row q hqk
  obtain ⟨U, u1, u2⟩ := update_ok (N := 20000) (by omega) hn3 hk hk2 hm hqk rA rB x2
  have hT := Mat.set a2 hqk rB
  obtain ⟨V, v1, v2⟩ := encode_ok (N := 20000) (by omega) hn3 hk hk2 hm hT
  obtain rfl : U = V := u2.ext v2 (fun p hp x hx => by
    unfold upd shard
    have := sum_one2 hqk (fun l => gen k (k + p) l * (if l = q then t q else s l) x) (fun l => gen k (k + p) l * s l x) (fun l hl hne => by simp only [if_neg hne])
    rw [this]
    simp only [if_true]
    rw [← G.mul_add, G.add_comm (t q x)])
  obtain ⟨Z0, c1, c2⟩ := chg_l0 (N := 20000) (by omega) hn3 hk2 a2 b2 (m : Int) Ls X Y
  obtain ⟨Z, d1, d2⟩ := encode_ok (N := 20000) (by omega) hn3 hk hk2 hm c2
  have d3 : Mat m n Z (fun p x => shard k s (k + p) x + shard k t (k + p) x) := d2.congr (fun p hp x hx => shard_add k s t (k + p) x)
  have hlX := x2.len
  have hlY := y2.len
  have hlZ := d2.len
  have hlU := u2.len
  have hall : Mat (k + m) n (A ++ X) (shard k s) := (a2.appendM x2).congr (fun i hi t ht => by
    by_cases h : i < k
    · rw [if_pos h, shard_data h]
    · rw [if_neg h, show k + (i - k) = i by omega])
  have z5 : ¬ ((k : Int) = 0) := by omega
  have z6 : (0 : Int) ≤ (q : Int) := by omega
  have z7 : (q : Int) < ((A.length : Nat) : Int) := by omega
  have z8 : (q : Int) < ((B.length : Nat) : Int) := by omega
  have z9 : q < A.length := by omega
  have f1 : fits 24 A.length = true := by simp [fits]; omega
  have f2 : fits 24 (A.length + X.length) = true := by simp [fits]; omega
  have k1 : ((Z.length : Nat) : Int) = (m : Int) := by omega
  have k2 : ((X.length : Nat) : Int) = (m : Int) := by omega
  have k3 : ((Y.length : Nat) : Int) = (m : Int) := by omega
  have gA : List.getD A q (EK.dflt (.sl (.int .u8))) = A.getD q [] := rfl
  have gB : List.getD B q (EK.dflt (.sl (.int .u8))) = B.getD q [] := rfl
  rw [x1, Option.bind_some]
  dsimp only
  rw [y1, Option.bind_some]
  dsimp only
  rw [numN, Option.bind_some, dT rfl, Bool.not_true, cond_false, Option.bind_some, dT rfl, Bool.not_true, Option.bind_some, cond_false, dF z5, Bool.not_false, cond_true, w1, dT z6, dT z7, Bool.and_self, cond_true, dT z8, Bool.and_self, cond_true, Int.toNat_natCast, gA, gB, update_v, u1, Option.bind_some, f1, cond_true]
  dsimp only
  rw [cond_true, cond_true, dT z9, cond_true, v1, Option.bind_some]
  dsimp only
  rw [numN, Option.bind_some, dT rfl, Bool.not_true, cond_false, Option.bind_some, dT rfl, Bool.not_true, cond_false, sameG (by omega) _ _ (by omega), sameB_self, Option.bind_some, Option.bind_some, Bool.not_true, cond_false, c1, Option.bind_some, d1, Option.bind_some]
  dsimp only
  rw [numN, Option.bind_some, dT rfl, Bool.not_true, cond_false, k1, dT rfl, Bool.not_true, cond_false, k2, dT rfl, Bool.not_true, cond_false, k3, dT rfl, Bool.not_true, Option.bind_some, cond_false, chg_l4 (by omega) hn3 hm x2 y2 d3, Option.bind_some]
  dsimp only
  rw [lentG_ok (by omega) (Mat.sm a2 (by omega) (by omega)), Option.bind_some, f2, cond_true, wrong_ok (by omega) hk hk2 hm hn3 (by omega) hall, Option.bind_some]
  rfl

end Go.Rf.W.Pure
