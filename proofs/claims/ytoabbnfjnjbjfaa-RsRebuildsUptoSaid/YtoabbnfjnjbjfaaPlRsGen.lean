/-
  Package rs: lists of shards of any lengths: rounds, lent, Same, even, huge, spoil.
-/
import Derived.Test.YtoabbnfjnjbjfaaPlRsCode2
set_option linter.unusedVariables false
set_option linter.unusedSimpArgs false
set_option maxRecDepth 10000
namespace Go.Rf.W.Pure
open Go Go.Rf Go.Rf.W Go.Rf.Lin

/-! Rounds -/

theorem it_ex {A R : Type} {b : (A → Option R) → A → Option R} (I : Nat → A → Prop) (n : Nat) {Q : R → Prop} (hs : ∀ i a, i < n → I i a → ∃ a', I (i + 1) a' ∧ ∀ nx, b nx a = nx a')
    (he : ∀ a, I n a → ∃ r, Q r ∧ ∀ nx, b nx a = some r) : ∀ f a, n < f → I 0 a → ∃ r, loopF b f a = some r ∧ Q r := by
  have key : ∀ d i f a, i + d = n → d < f → I i a → ∃ r, loopF b f a = some r ∧ Q r := by
    intro d
    induction d with
    | zero =>
      intro i f a hi hf ha
      obtain ⟨f, rfl⟩ : ∃ g, f = g + 1 := ⟨f - 1, by omega⟩
      have : i = n := by omega
      subst this
      obtain ⟨r, h1, h2⟩ := he a ha
      exact ⟨r, h2 _, h1⟩
    | succ d ih =>
      intro i f a hi hf ha
      obtain ⟨f, rfl⟩ : ∃ g, f = g + 1 := ⟨f - 1, by omega⟩
      obtain ⟨a', h1, h2⟩ := hs i a (by omega) ha
      obtain ⟨r, h3, h4⟩ := ih (i + 1) f a' (by omega) (by omega) h1
      exact ⟨r, (h2 _).trans h3, h4⟩
  exact fun f a hf ha => key n 0 f a (by omega) hf ha

theorem it_all {A R : Type} {b : (A → Option R) → A → Option R} (st : Nat → A) (n : Nat) (p : Nat → Bool) {r0 r1 : R} (hs : ∀ i, i < n → p i = true → ∀ nx, b nx (st i) = nx (st (i + 1)))
    (hf : ∀ i, i < n → p i = false → ∀ nx, b nx (st i) = some r0) (he : ∀ nx, b nx (st n) = some r1) : ∀ f, n < f → loopF b f (st 0) = some (cond ((List.range n).all p) r1 r0) := by
  have key : ∀ d i f, i + d = n → d < f → loopF b f (st i) = some (cond ((List.range' i d).all p) r1 r0) := by
    intro d
    induction d with
    | zero =>
      intro i f hi hf'
      obtain ⟨f, rfl⟩ : ∃ g, f = g + 1 := ⟨f - 1, by omega⟩
      have : i = n := by omega
      subst this
      exact he _
    | succ d ih =>
      intro i f hi hf'
      obtain ⟨f, rfl⟩ : ∃ g, f = g + 1 := ⟨f - 1, by omega⟩
      show b (loopF b f) (st i) = _
      rw [List.range'_succ, List.all_cons]
      cases h : p i with
      | true => rw [hs i (by omega) h, Bool.true_and]; exact ih (i + 1) f (by omega) (by omega)
      | false => rw [hf i (by omega) h]; rfl
  intro f hf'
  rw [List.range_eq_range']
  exact key n 0 f (by omega) hf'

theorem it_st {A R : Type} {b : (A → Option R) → A → Option R} (st : Nat → A) (n : Nat) {r : R} (hs : ∀ i, i < n → ∀ nx, b nx (st i) = nx (st (i + 1))) (he : ∀ nx, b nx (st n) = some r) (f : Nat) (hf : n < f) : loopF b f (st 0) = some r := by
  have := it_all st n (fun _ => true) (r0 := r) (r1 := r) (fun i hi _ => hs i hi) (fun i hi h => by cases h) he f hf
  rw [this]
  cases (List.range n).all fun _ => true <;> rfl

/-! Shards of any lengths -/

structure Sm (S : List (List Int)) : Prop where
  len : S.length ≤ 60
  row : ∀ r, r ∈ S → r.length ≤ 10000
  byt : ∀ r, r ∈ S → ∀ x, x ∈ r → 0 ≤ x ∧ x < 256

theorem getD_mem {α : Type} {S : List α} {i : Nat} {d : α} (h : i < S.length) : S.getD i d ∈ S := by
  rw [List.getD_eq_getElem?_getD, List.getElem?_eq_getElem h]; exact List.getElem_mem h
theorem Sm.get {S : List (List Int)} (h : Sm S) {i : Nat} (hi : i < S.length) : (S.getD i []).length ≤ 10000 := h.row _ (getD_mem hi)
theorem Sm.append {S T : List (List Int)} (h : Sm S) (h' : Sm T) (hl : S.length + T.length ≤ 60) : Sm (S ++ T) :=
  ⟨by simpa using hl, fun r hr => (List.mem_append.1 hr).elim (h.row r) (h'.row r), fun r hr => (List.mem_append.1 hr).elim (h.byt r) (h'.byt r)⟩
theorem Sm.take {S : List (List Int)} (h : Sm S) (k : Nat) : Sm (List.take k S) :=
  ⟨by have := h.len; simp; omega, fun r hr => h.row r (List.mem_of_mem_take hr), fun r hr => h.byt r (List.mem_of_mem_take hr)⟩
theorem Mat.sm {K n : Nat} {S : List (List Int)} {s : Nat → Nat → G} (h : Mat K n S s) (hK : K ≤ 60) (hn : n ≤ 10000) : Sm S := by
  have hl := h.len
  have get : ∀ r, r ∈ S → ∃ i, i < K ∧ r = S.getD i [] := fun r hr => by
    obtain ⟨i, hi, e⟩ := List.mem_iff_getElem.1 hr
    exact ⟨i, by omega, by rw [List.getD_eq_getElem?_getD, List.getElem?_eq_getElem hi]; exact e.symm⟩
  refine ⟨by omega, fun r hr => ?_, fun r hr => ?_⟩
  · obtain ⟨i, hi, rfl⟩ := get r hr
    rw [(h.row i hi).len]; exact hn
  · obtain ⟨i, hi, rfl⟩ := get r hr
    exact (h.row i hi).bytes

/-- Are all as long as the first? -/
def evenB (S : List (List Int)) : Bool := (List.range S.length).all fun i => decide ((S.getD i []).length = (S.getD 0 []).length)

theorem evenB_iff {S : List (List Int)} : evenB S = true ↔ ∀ i, i < S.length → (S.getD i []).length = (S.getD 0 []).length := by
  simp [evenB]

theorem Mat.of {S : List (List Int)} (h : Sm S) (he : evenB S = true) : ∃ s, Mat S.length (S.getD 0 []).length S s := by
  rw [evenB_iff] at he
  refine ⟨fun i j => G.of ((S.getD i []).getD j 0).toNat, rfl, fun i hi => ?_⟩
  have := Vec.of (L := S.getD i []) (h.byt _ (getD_mem hi))
  rw [he i hi] at this
  exact this

theorem Mat.even {K n : Nat} {S : List (List Int)} {s : Nat → Nat → G} (h : Mat K n S s) : evenB S = true := by
  rw [evenB_iff]
  intro i hi
  have hl := h.len
  rw [(h.row i (by omega)).len, (h.row 0 (by omega)).len]

/-! lent -/

theorem lentG_ok {N : Nat} (hN : 200 ≤ N) {S : List (List Int)} (hS : Sm S) : granarylaw03_lent N S = some S := by
  have hl := hS.len
  have key : loopF (granarylaw03_lent_b0 N) N (S, ((0 : Nat) : Int), List.take 0 S) = some S := by
    refine it_st (b := granarylaw03_lent_b0 N) (fun i => (S, ((i : Nat) : Int), List.take i S)) S.length (fun i hi nx => ?_) (fun nx => ?_) N (by omega)
    · have hn := hS.get hi
      obtain ⟨X, hX⟩ : ∃ X, List.getD S i (EK.dflt (.sl (.int .u8))) = X := ⟨_, rfl⟩
      have hX' : S.getD i [] = X := hX
      rw [hX'] at hn
      have z1 : (i : Int) < ((S.length : Nat) : Int) := by omega
      have z2 : (0 : Int) ≤ (i : Int) := by omega
      have g1 : ∀ q, q ≤ 10002 → fits 1 q = true := fun q hq => by simp [fits]; omega
      have g2 : ∀ q, q ≤ 200 → fits 24 q = true := fun q hq => by simp [fits]; omega
      have f1 := g1 X.length (by omega)
      have f2 := g1 (X.length + 2) (by omega)
      have z3 : (0 : Int) ≤ ((X.length : Nat) : Int) := by omega
      have z4 : ((X.length : Nat) : Int) ≤ ((X.length + 2 : Nat) : Int) := by omega
      have z5 : (0 + X.length) ≤ X.length + 2 := by omega
      have hap : (X ++ ([9, 9] : List Int)).length = X.length + 2 := by simp
      have htk : List.take X.length (X ++ ([9, 9] : List Int)) = X := by rw [List.take_append_of_le_length (by omega), List.take_of_length_le (by omega)]
      have f3 := g2 ((List.take i S).length + 1) (by simp; omega)
      have hnx : List.take i S ++ [X] = List.take (i + 1) S := by
        have h5 : S[i]? = some X := by
          rw [List.getD_eq_getElem?_getD, List.getElem?_eq_getElem hi] at hX'
          rw [List.getElem?_eq_getElem hi]
          exact congrArg some hX'
        rw [List.take_add_one, h5]; rfl
      have t2 : List.take 2 (List.drop 0 ([9, 9] : List Int)) = [9, 9] := rfl
      have l2 : (2 ≤ ([9, 9] : List Int).length) := by decide
      have l3 : ([9, 9] : List Int).length = 2 := rfl
      unfold granarylaw03_lent_b0
      dsimp only
      rw [dT z1, cond_true, dT z2, Bool.and_self, cond_true, Int.toNat_natCast, hX, f1, cond_true, dT l2, t2, l3, f2, Bool.and_self, cond_true, hap, dT z3, dT z4, Bool.and_self, cond_true, Int.toNat_natCast, dT z5, Bool.and_self, Bool.and_self, cond_true, List.drop_zero, htk, List.length_cons, List.length_nil, Nat.zero_add, f3, cond_true, hnx, wrap_succ (show i ≤ 1000000 by omega), cond_true]
    · have h1 : ¬ (((S.length : Nat) : Int) < ((S.length : Nat) : Int)) := by omega
      simp only [granarylaw03_lent_b0, dF h1, cond_false, List.take_length]
  have e0 : ((0 : Nat) : Int) = 0 := rfl
  rw [e0, List.take_zero] at key
  unfold granarylaw03_lent
  rw [granarylaw03_lent_l0, key, Option.bind_some]

/-! Same -/

def enc (l : List Int) : List UInt8 := List.map (fun (n : Int) => UInt8.ofNat n.toNat) l
def sameB (S T : List (List Int)) : Bool := decide (S.length = T.length) && (List.range S.length).all fun i => decide (enc (S.getD i []) = enc (T.getD i []))
theorem sameB_self (S : List (List Int)) : sameB S S = true := by simp [sameB]

theorem sameG {N : Nat} (hN : 200 ≤ N) (S T : List (List Int)) (hS : S.length ≤ 100) : granaryref03_Same N (S, T) = some (sameB S T) := by
  unfold granaryref03_Same sameB
  dsimp only
  by_cases hl : S.length = T.length
  · have key : granaryref03_Same_l0 N (S, T, ((0 : Nat) : Int)) = some (cond ((List.range S.length).all fun i => decide (enc (S.getD i []) = enc (T.getD i []))) (.inr ()) (.inl ())) := by
      rw [granaryref03_Same_l0]
      refine it_all (b := granaryref03_Same_b0 N) (fun i => (S, T, ((i : Nat) : Int))) S.length (fun i => decide (enc (S.getD i []) = enc (T.getD i []))) (fun i hi hp nx => ?_) (fun i hi hp nx => ?_) (fun nx => ?_) N (by omega)
      · have z1 : (i : Int) < ((S.length : Nat) : Int) := by omega
        have z2 : (0 : Int) ≤ (i : Int) := by omega
        have z3 : (i : Int) < ((T.length : Nat) : Int) := by omega
        have hp' : decide ((List.map (fun (n : Int) => UInt8.ofNat n.toNat) (List.getD S i (EK.dflt (.sl (.int .u8))))) = (List.map (fun (n : Int) => UInt8.ofNat n.toNat) (List.getD T i (EK.dflt (.sl (.int .u8)))))) = true := hp
        simp only [granaryref03_Same_b0, dT z1, dT z2, dT z3, cond_true, Bool.and_self, Int.toNat_natCast, hp', Bool.not_true, cond_false, wrap_succ (show i ≤ 1000000 by omega)]
      · have z1 : (i : Int) < ((S.length : Nat) : Int) := by omega
        have z2 : (0 : Int) ≤ (i : Int) := by omega
        have z3 : (i : Int) < ((T.length : Nat) : Int) := by omega
        have hp' : decide ((List.map (fun (n : Int) => UInt8.ofNat n.toNat) (List.getD S i (EK.dflt (.sl (.int .u8))))) = (List.map (fun (n : Int) => UInt8.ofNat n.toNat) (List.getD T i (EK.dflt (.sl (.int .u8)))))) = false := hp
        simp only [granaryref03_Same_b0, dT z1, dT z2, dT z3, cond_true, Bool.and_self, Int.toNat_natCast, hp', Bool.not_false, cond_true]
      · have h1 : ¬ (((S.length : Nat) : Int) < ((S.length : Nat) : Int)) := by omega
        simp only [granaryref03_Same_b0, dF h1, cond_false]
    have e0 : ((0 : Nat) : Int) = 0 := rfl
    rw [e0] at key
    have z0 : ((S.length : Nat) : Int) = ((T.length : Nat) : Int) := by omega
    rw [dT z0, Bool.not_true, cond_false, key, Option.bind_some, dT hl, Bool.true_and]
    cases (List.range S.length).all fun i => decide (enc (S.getD i []) = enc (T.getD i [])) <;> rfl
  · have z0 : ¬ ((S.length : Nat) : Int) = ((T.length : Nat) : Int) := by omega
    rw [dF z0, Bool.not_false, cond_true, dF hl, Bool.false_and]

/-! even -/

theorem evenG {N : Nat} (hN : 200 ≤ N) {S : List (List Int)} (hS : Sm S) : rs_even N S = some (cond (evenB S) (if (S.getD 0 []).length ≤ 4096 then (((S.getD 0 []).length : Int), 0) else (0, 1)) (0, 2)) := by
  have hl := hS.len
  have h0 : (S.getD 0 []).length ≤ 10000 := by
    by_cases h : 0 < S.length
    · exact hS.get h
    · have : S = [] := List.length_eq_zero_iff.1 (by omega)
      subst this; simp
  let cur : Nat → Int := fun i => if i = 0 then 0 else ((S.getD 0 []).length : Int)
  have key : rs_even_l0 N (cur 0, S, ((S.length : Nat) : Int), ((0 : Nat) : Int)) = some (cond (evenB S) (.inr (cur S.length)) (.inl ())) := by
    rw [rs_even_l0]
    refine it_all (b := rs_even_b0 N) (fun i => (cur i, S, ((S.length : Nat) : Int), ((i : Nat) : Int))) S.length (fun i => decide ((S.getD i []).length = (S.getD 0 []).length)) (fun i hi hp nx => ?_) (fun i hi hp nx => ?_) (fun nx => ?_) N (by omega)
    all_goals
      first
      | have z1 : (i : Int) < ((S.length : Nat) : Int) := by omega
        have z2 : (0 : Int) ≤ (i : Int) := by omega
        have z4 : (cond (decide ((i : Int) = (0 : Int))) (some (((List.length (List.getD S i (EK.dflt (.sl (.int .u8))))) : Nat) : Int)) (some (cur i))) = some ((S.getD 0 []).length : Int) := by
          by_cases h : i = 0
          · subst h; rw [dT (show ((0 : Nat) : Int) = 0 from rfl), cond_true]; rfl
          · rw [dF (show ¬ ((i : Int) = 0) by omega), cond_false]; simp only [cur, if_neg h]
        unfold rs_even_b0
        dsimp only
        rw [dT z1, cond_true, dT z2, Bool.and_self, cond_true, Int.toNat_natCast, z4, Option.bind_some]
      | skip
    · have hp' : (S.getD i []).length = (S.getD 0 []).length := by simpa using hp
      have z5 : ((List.length (List.getD S i (EK.dflt (.sl (.int .u8)))) : Nat) : Int) = ((S.getD 0 []).length : Int) := congrArg _ hp'
      rw [dT z5, Bool.not_true, cond_false, wrap_succ (show i ≤ 1000000 by omega)]
      simp only [cur, if_neg (Nat.succ_ne_zero i)]
    · have hp' : ¬ (S.getD i []).length = (S.getD 0 []).length := by simpa using hp
      have z5 : ¬ ((List.length (List.getD S i (EK.dflt (.sl (.int .u8)))) : Nat) : Int) = ((S.getD 0 []).length : Int) := fun e => hp' (Int.ofNat.inj e)
      rw [dF z5, Bool.not_false, cond_true]
    · have h1 : ¬ (((S.length : Nat) : Int) < ((S.length : Nat) : Int)) := by omega
      simp only [rs_even_b0, dF h1, cond_false]
  have e0 : ((0 : Nat) : Int) = 0 := rfl
  have ec : cur 0 = 0 := rfl
  rw [ec, e0] at key
  have hcur : cur S.length = ((S.getD 0 []).length : Int) := by
    by_cases h : S.length = 0
    · have : S = [] := List.length_eq_zero_iff.1 h
      subst this; rfl
    · simp only [cur, if_neg h]
  unfold rs_even
  rw [key, Option.bind_some]
  cases evenB S with
  | false => rfl
  | true =>
    simp only [cond_true]
    rw [hcur]
    by_cases hn : (S.getD 0 []).length ≤ 4096
    · rw [dF (show ¬ ((4096 : Int) < ((S.getD 0 []).length : Int)) by omega), cond_false, if_pos hn]
    · rw [dT (show ((4096 : Int) < ((S.getD 0 []).length : Int)) by omega), cond_true, if_neg hn]

/-! huge -/

/-- All bytes of the first so many shards. -/
def tot (S : List (List Int)) (i : Nat) : Nat := ((List.take i S).map List.length).sum
theorem tot_succ {S : List (List Int)} {i : Nat} (h : i < S.length) : tot S (i + 1) = tot S i + (S.getD i []).length := by
  unfold tot
  rw [List.take_add_one, List.getElem?_eq_getElem h, List.map_append, List.sum_append, List.getD_eq_getElem?_getD, List.getElem?_eq_getElem h]
  simp
theorem tot_mono {S : List (List Int)} : ∀ {i j : Nat}, i ≤ j → j ≤ S.length → tot S i ≤ tot S j := by
  intro i j hij
  induction j with
  | zero => intro _; have : i = 0 := by omega
            subst this; exact Nat.le_refl _
  | succ j ih =>
    intro hj
    by_cases e : i = j + 1
    · subst e; exact Nat.le_refl _
    · rw [tot_succ (by omega)]
      have := ih (by omega) (by omega)
      omega

theorem hugeG {N : Nat} (hN : 200 ≤ N) {S : List (List Int)} (hb : ∀ r, r ∈ S → r.length ≤ 1048576) :
    ∃ b, granarylaw03_huge N S = some b ∧ (b = false → S.length ≤ 30 ∧ ∀ r, r ∈ S → r.length ≤ 9000) := by
  let M := min S.length 31
  have hM : M ≤ S.length ∧ M ≤ 31 := ⟨Nat.min_le_left _ _, Nat.min_le_right _ _⟩
  have bd : ∀ i, i ≤ M → tot S i ≤ i * 1048576 := by
    intro i
    induction i with
    | zero => intro _; simp [tot]
    | succ i ih =>
      intro hi
      have h1 := ih (by omega)
      have h2 := hb _ (getD_mem (S := S) (i := i) (d := []) (by omega))
      rw [tot_succ (by omega), Nat.add_mul]
      omega
  have key : granarylaw03_huge_l0 N (S, ((tot S 0 : Nat) : Int), ((0 : Nat) : Int)) = some ((tot S M : Nat) : Int) := by
    rw [granarylaw03_huge_l0]
    refine it_st (b := granarylaw03_huge_b0 N) (fun i => (S, ((tot S i : Nat) : Int), ((i : Nat) : Int))) M (fun i hi nx => ?_) (fun nx => ?_) N (by omega)
    · have z1 : (i : Int) < ((S.length : Nat) : Int) := by omega
      have z2 : (i : Int) ≤ 30 := by omega
      have z3 : (0 : Int) ≤ (i : Int) := by omega
      have h1 := bd i (by omega)
      have h2 := hb _ (getD_mem (S := S) (i := i) (d := []) (by omega))
      have h3 : i * 1048576 ≤ 31 * 1048576 := Nat.mul_le_mul_right _ (by omega)
      have w : wrapF .i64 (((tot S i : Nat) : Int) + ((List.length (List.getD S i (EK.dflt (.sl (.int .u8)))) : Nat) : Int)) = ((tot S (i + 1) : Nat) : Int) := by
        rw [tot_succ (by omega)]
        show wrapF .i64 (((tot S i : Nat) : Int) + (((S.getD i []).length : Nat) : Int)) = _
        rw [wrapF_i64 (by omega) (by omega)]; omega
      unfold granarylaw03_huge_b0
      dsimp only
      rw [dT z1, cond_true, dT z2, Option.bind_some, cond_true, dT z3, Bool.and_self, cond_true, Int.toNat_natCast, w, wrap_succ (show i ≤ 1000000 by omega)]
    · unfold granarylaw03_huge_b0
      dsimp only
      by_cases h : M = S.length
      · have z1 : ¬ ((M : Int) < ((S.length : Nat) : Int)) := by omega
        rw [dF z1, cond_false, Option.bind_some, cond_false]
      · have e : M = 31 := by simp only [M] at h ⊢; omega
        have z1 : ((M : Int) < ((S.length : Nat) : Int)) := by omega
        have z2 : ¬ ((M : Int) ≤ 30) := by omega
        rw [dT z1, cond_true, dF z2, Option.bind_some, cond_false]
  have e0 : ((0 : Nat) : Int) = 0 := rfl
  have et : ((tot S 0 : Nat) : Int) = 0 := by simp [tot]
  rw [et, e0] at key
  unfold granarylaw03_huge
  rw [key, Option.bind_some]
  by_cases h : 30 < S.length
  · rw [dT (show (30 : Int) < ((S.length : Nat) : Int) by omega), cond_true]
    exact ⟨true, rfl, fun h => by cases h⟩
  · rw [dF (show ¬ (30 : Int) < ((S.length : Nat) : Int) by omega), cond_false]
    refine ⟨_, rfl, fun hd => ⟨by omega, fun r hr => ?_⟩⟩
    have hMl : M = S.length := by simp only [M]; omega
    have h9 : ¬ ((9000 : Int) < ((tot S M : Nat) : Int)) := by simpa using hd
    obtain ⟨i, hi, e⟩ := List.mem_iff_getElem.1 hr
    have e2 : S.getD i [] = r := by rw [List.getD_eq_getElem?_getD, List.getElem?_eq_getElem hi]; exact e
    have h1 := tot_succ (S := S) hi
    have h2 := tot_mono (S := S) (i := i + 1) (j := M) (by omega) hM.1
    rw [e2] at h1
    omega

/-! spoil -/

theorem spoilG {N : Nat} (hN : 20000 ≤ N) {S : List (List Int)} (hS : Sm S) : ∃ r, granarylaw03_spoil N S = some r := by
  let L : Nat → Nat := fun q => (S.getD q []).length
  let I : Nat → Int × List (List Int) → Prop := fun i a => ∃ T : List (List Int), a = ((i : Int), T) ∧ T.length = S.length ∧ ∀ q, (T.getD q []).length = L q
  have hl := hS.len
  obtain ⟨r, h1, _⟩ := it_ex (b := granarylaw03_spoil_b0 N) I S.length (Q := fun _ => True) (fun i a hi ha => by
    obtain ⟨T, rfl, hT, hr⟩ := ha
    have hLi : L i ≤ 10000 := hS.get hi
    let J : Nat → Int × Int × List (List Int) → Prop := fun t a => ∃ T : List (List Int), a = ((i : Int), (t : Int), T) ∧ T.length = S.length ∧ ∀ q, (T.getD q []).length = L q
    obtain ⟨T', p1, p2, p3⟩ := it_ex (b := granarylaw03_spoil_b2 N) J (L i) (Q := fun T => T.length = S.length ∧ ∀ q, (T.getD q []).length = L q) (fun t a ht ha => by
      obtain ⟨T, rfl, hT, hr⟩ := ha
      have z1 : (i : Int) < ((T.length : Nat) : Int) := by omega
      have z2 : (0 : Int) ≤ (i : Int) := by omega
      have z3 : i < T.length := by omega
      have hri := hr i
      have z4 : (t : Int) < (((T.getD i []).length : Nat) : Int) := by omega
      have z5 : (0 : Int) ≤ (t : Int) := by omega
      have z6 : t < (T.getD i []).length := by omega
      refine ⟨_, ⟨List.set T i (List.set (List.getD T i []) t (xorF .u8 (List.getD (List.getD T i []) t 0) 85)), rfl, by rw [List.length_set]; exact hT, fun q => ?_⟩, fun nx => ?_⟩
      · by_cases hq : q = i
        · subst hq
          rw [List.getD_eq_getElem?_getD, List.getElem?_set_self z3]
          simp only [Option.getD_some, List.length_set]
          exact hr q
        · rw [List.getD_eq_getElem?_getD, List.getElem?_set_ne (Ne.symm hq), ← List.getD_eq_getElem?_getD]
          exact hr q
      · unfold granarylaw03_spoil_b2
        dsimp only
        simp only [dT z1, dT z2, dT z3, dT z4, dT z5, dT z6, Bool.and_self, cond_true, Int.toNat_natCast, wrap_succ (show t ≤ 1000000 by omega)]) (fun a ha => by
      obtain ⟨T, rfl, hT, hr⟩ := ha
      have z1 : (i : Int) < ((T.length : Nat) : Int) := by omega
      have z2 : (0 : Int) ≤ (i : Int) := by omega
      have z3 : i < T.length := by omega
      have hri := hr i
      have z4 : ¬ ((L i : Int) < (((T.getD i []).length : Nat) : Int)) := by omega
      refine ⟨T, ⟨hT, hr⟩, fun nx => ?_⟩
      unfold granarylaw03_spoil_b2
      dsimp only
      simp only [dT z1, dT z2, dT z3, dF z4, Bool.and_self, cond_true, cond_false, Int.toNat_natCast]) N ((i : Int), ((0 : Nat) : Int), T) (by omega) ⟨T, rfl, hT, hr⟩
    refine ⟨_, ⟨T', rfl, p2, p3⟩, fun nx => ?_⟩
    have z1 : (i : Int) < ((T.length : Nat) : Int) := by omega
    have e0 : ((0 : Nat) : Int) = 0 := rfl
    rw [e0] at p1
    unfold granarylaw03_spoil_b0
    dsimp only
    rw [dT z1, cond_true, granarylaw03_spoil_l2, p1, Option.bind_some, wrap_succ (show i ≤ 1000000 by omega)]) (fun a ha => by
    obtain ⟨T, rfl, hT, hr⟩ := ha
    have z1 : ¬ (((S.length : Nat) : Int) < ((T.length : Nat) : Int)) := by omega
    refine ⟨T, trivial, fun nx => ?_⟩
    unfold granarylaw03_spoil_b0
    dsimp only
    rw [dF z1, cond_false]) N (((0 : Nat) : Int), S) (by omega) ⟨S, rfl, rfl, fun _ => rfl⟩
  have e0 : ((0 : Nat) : Int) = 0 := rfl
  rw [e0] at h1
  refine ⟨r, ?_⟩
  unfold granarylaw03_spoil
  rw [granarylaw03_spoil_l0, h1, Option.bind_some]

end Go.Rf.W.Pure
