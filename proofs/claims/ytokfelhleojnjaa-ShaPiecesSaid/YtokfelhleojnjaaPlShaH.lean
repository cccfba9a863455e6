/-
  Package sha: hexadecimal digits.
-/
import Derived.Test.YtokfelhleojnjaaPlShaC
set_option linter.unusedVariables false
set_option maxRecDepth 10000
namespace Go.Rf.W
open Go Go.Rf
namespace Sha

def hx : List UInt8 := [48, 49, 50, 51, 52, 53, 54, 55, 56, 57, 97, 98, 99, 100, 101, 102]

def srch (c : Int) : Nat → Nat → Int
  | 0, _ => -1
  | d + 1, i => if ((hx.getD i 0).toNat : Int) = c then (i : Int) else srch c d (i + 1)
/-- What a digit is worth. -/
def dig (c : UInt8) : Int := srch (c.toNat : Int) 16 0

theorem digit_loop {N : Nat} {c : Int} : ∀ (d i f : Nat), i + d = 16 → d < f → Option.bind (loopF (granaryref05_digit_b0 N) f (c, (i : Int))) (fun r => match r with | .inl y => some y | .inr z => some (-1 : Int)) = some (srch c d i) := by
  intro d
  induction d with
  | zero =>
    intro i f hi hf
    obtain ⟨f, rfl⟩ : ∃ g, f = g + 1 := ⟨f - 1, by omega⟩
    show Option.bind (granaryref05_digit_b0 N _ _) _ = _
    unfold granaryref05_digit_b0
    dsimp only
    rw [deF (by omega), cond_false]
    rfl
  | succ d ih =>
    intro i f hi hf
    obtain ⟨f, rfl⟩ : ∃ g, f = g + 1 := ⟨f - 1, by omega⟩
    show Option.bind (granaryref05_digit_b0 N (loopF (granaryref05_digit_b0 N) f) _) _ = _
    have ih := ih (i + 1) f (by omega) (by omega)
    generalize loopF (granaryref05_digit_b0 N) f = nx at ih ⊢
    unfold granaryref05_digit_b0
    dsimp only
    rw [deT (p := (i : Int) < 16) (by omega), cond_true, deT (p := (0 : Int) ≤ (i : Int)) (by omega), deT (by show (i : Int) < 16; omega), Bool.and_self, cond_true, Int.toNat_natCast, wrapF_i64 (by omega) (by omega)]
    simp only [srch]
    by_cases h : ((hx.getD i 0).toNat : Int) = c
    · rw [if_pos h]
      have h' : (((List.getD ([48, 49, 50, 51, 52, 53, 54, 55, 56, 57, 97, 98, 99, 100, 101, 102] : List UInt8) i 0).toNat : Nat) : Int) = c := h
      rw [deT h']
      rfl
    · rw [if_neg h]
      have h' : ¬ (((List.getD ([48, 49, 50, 51, 52, 53, 54, 55, 56, 57, 97, 98, 99, 100, 101, 102] : List UInt8) i 0).toNat : Nat) : Int) = c := h
      rw [deF h', cond_false, show (i : Int) + 1 = ((i + 1 : Nat) : Int) by omega]
      exact ih

theorem digit_ok {N : Nat} {c : UInt8} (hN : 16 < N) : granaryref05_digit N (c.toNat : Int) = some (dig c) := by
  have := digit_loop (N := N) (c := (c.toNat : Int)) 16 0 N (by omega) hN
  unfold granaryref05_digit granaryref05_digit_l0
  exact this

theorem value_all : ∀ c : Fin 256, sha_value ((c.val : Nat) : Int) = some (srch ((c.val : Nat) : Int) 16 0) := by decide +kernel
theorem value_ok (c : UInt8) : sha_value (c.toNat : Int) = some (dig c) := value_all ⟨c.toNat, c.toNat_lt⟩
theorem dig_all : ∀ c : Fin 256, srch ((c.val : Nat) : Int) 16 0 < 16 ∧ -1 ≤ srch ((c.val : Nat) : Int) 16 0 := by decide +kernel
theorem dig_bd (c : UInt8) : dig c < 16 ∧ -1 ≤ dig c := dig_all ⟨c.toNat, c.toNat_lt⟩

def stepD (a v : Int) : Int := (a * 16 + v) % 256
theorem step1_all : ∀ (a : Fin 256) (v : Fin 16), orF .u8 (shlF .u8 ((a.val : Nat) : Int) 4) (wrapF .u8 ((v.val : Nat) : Int)) = stepD ((a.val : Nat) : Int) ((v.val : Nat) : Int) := by decide +kernel
theorem step1 {a v : Int} (ha : 0 ≤ a ∧ a < 256) (hv : 0 ≤ v ∧ v < 16) : orF .u8 (shlF .u8 a 4) (wrapF .u8 v) = stepD a v := by
  have := step1_all ⟨a.toNat, by omega⟩ ⟨v.toNat, by omega⟩
  simpa only [Int.toNat_of_nonneg ha.1, Int.toNat_of_nonneg hv.1] using this
theorem step2 {a v : Int} : wrapF .u8 (wrapF .u8 (a * 16) + wrapF .u8 v) = stepD a v := by simp only [wrapF, stepD]; omega

/-- Digits read: where one is none, the place. -/
def pl (s : List UInt8) : Nat → Nat → List Int → (Int × List Int) ⊕ List Int
  | 0, _, d => .inr d
  | n + 1, i, d => if dig (s.getD i 0) < 0 then .inl ((i : Int), d) else pl s n (i + 1) (d.set (i / 2) (stepD (d.getD (i / 2) 0) (dig (s.getD i 0))))

def z32 : List Int := List.replicate 32 0
def out (r : (Int × List Int) ⊕ List Int) : (Int × List Int × List Int) ⊕ (List Int × List Int) := match r with
  | .inl (i, d) => .inl (i, z32, d)
  | .inr d => .inr (z32, d)

def Bt (s : List Int) : Prop := ∀ x ∈ s, 0 ≤ x ∧ x < 256
theorem Bt.get {s : List Int} (h : Bt s) (i : Nat) : 0 ≤ s.getD i 0 ∧ s.getD i 0 < 256 := by
  by_cases hi : i < s.length
  · rw [List.getD, List.getElem?_eq_getElem hi]; exact h _ (List.getElem_mem _)
  · rw [List.getD, List.getElem?_eq_none (by omega)]; exact ⟨by decide, by decide⟩
theorem Bt.set {s : List Int} (h : Bt s) (i : Nat) {v : Int} (hv : 0 ≤ v ∧ v < 256) : Bt (s.set i v) := fun x hx => by
  rcases List.mem_or_eq_of_mem_set hx with hx | hx
  · exact h x hx
  · subst hx; exact hv
theorem stepD_bd (a v : Int) : 0 ≤ stepD a v ∧ stepD a v < 256 := by unfold stepD; omega
theorem z32_bt : Bt z32 := fun x hx => by
  have := List.eq_of_mem_replicate hx
  omega

theorem half_nat (i : Nat) : Int.tdiv ((i : Nat) : Int) 2 = ((i / 2 : Nat) : Int) := rfl

theorem parse_loop {N : Nat} {s : List UInt8} {m : Nat} (hm : m ≤ 64) (hs : m ≤ s.length) : ∀ (n i f : Nat) (d : List Int), i + n = m → n < f → d.length = 32 → Bt d →
    loopF (sha_Parse_b0 N) f (s, (m : Int), (i : Int), z32, d) = some (out (pl s n i d)) := by
  intro n
  induction n with
  | zero =>
    intro i f d hi hf hd hb
    obtain ⟨f, rfl⟩ : ∃ g, f = g + 1 := ⟨f - 1, by omega⟩
    show sha_Parse_b0 N _ _ = _
    unfold sha_Parse_b0
    dsimp only
    rw [deF (by omega), cond_false]
    rfl
  | succ n ih =>
    intro i f d hi hf hd hb
    obtain ⟨f, rfl⟩ : ∃ g, f = g + 1 := ⟨f - 1, by omega⟩
    show sha_Parse_b0 N (loopF (sha_Parse_b0 N) f) _ = _
    generalize hnx : loopF (sha_Parse_b0 N) f = nx
    unfold sha_Parse_b0
    dsimp only
    have hh := half_nat i
    rw [deT (p := (i : Int) < (m : Int)) (by omega), cond_true, deT (p := (0 : Int) ≤ (i : Int)) (by omega), deT (p := (i : Int) < ((s.length : Nat) : Int)) (by omega), Bool.and_self, cond_true, Int.toNat_natCast, value_ok, Option.bind_some, hh, wrapF_i64 (by omega) (by omega)]
    unfold pl
    have hbd := dig_bd (s.getD i 0)
    by_cases h : dig (s.getD i 0) < 0
    · rw [deT h, if_pos h, cond_true]
      rfl
    · rw [deF h, if_neg h, cond_false, deT (p := (0 : Int) ≤ ((i / 2 : Nat) : Int)) (by omega), deT (p := ((i / 2 : Nat) : Int) < 32) (by omega), Bool.and_self, cond_true, Int.toNat_natCast, deT (p := i / 2 < d.length) (by omega), cond_true, cond_true, cond_true,
        show (EK.dflt (.int .u8)) = (0 : Int) from rfl, step1 (hb.get _) (by omega), wrapF_i64 (by omega) (by omega), ← hnx, show (i : Int) + 1 = ((i + 1 : Nat) : Int) by omega,
        ih (i + 1) f _ (by omega) (by omega) (by rw [List.length_set]; exact hd) (hb.set _ (stepD_bd _ _))]

theorem rparse_loop {N : Nat} {s : List UInt8} {m : Nat} (hm : m = min s.length 64) (hN : 16 < N) (hl : s.length < 1000000) : ∀ (n i f : Nat) (d : List Int), i + n = m → n < f → d.length = 32 → Bt d →
    loopF (granaryref05_Parse_b0 N) f (s, (i : Int), z32, d) = some (out (pl s n i d)) := by
  intro n
  induction n with
  | zero =>
    intro i f d hi hf hd hb
    obtain ⟨f, rfl⟩ : ∃ g, f = g + 1 := ⟨f - 1, by omega⟩
    show granaryref05_Parse_b0 N _ _ = _
    unfold granaryref05_Parse_b0
    dsimp only
    by_cases h : s.length ≤ i
    · rw [deF (p := (i : Int) < ((s.length : Nat) : Int)) (by omega), cond_false, Option.bind_some, cond_false]; rfl
    · rw [deT (p := (i : Int) < ((s.length : Nat) : Int)) (by omega), cond_true, deF (p := (i : Int) < 64) (by omega), Option.bind_some, cond_false]; rfl
  | succ n ih =>
    intro i f d hi hf hd hb
    obtain ⟨f, rfl⟩ : ∃ g, f = g + 1 := ⟨f - 1, by omega⟩
    show granaryref05_Parse_b0 N (loopF (granaryref05_Parse_b0 N) f) _ = _
    generalize hnx : loopF (granaryref05_Parse_b0 N) f = nx
    unfold granaryref05_Parse_b0
    dsimp only
    have hh := half_nat i
    rw [deT (p := (i : Int) < ((s.length : Nat) : Int)) (by omega), cond_true, deT (p := (i : Int) < 64) (by omega), Option.bind_some, cond_true, deT (p := (0 : Int) ≤ (i : Int)) (by omega), Bool.and_self, cond_true, Int.toNat_natCast, digit_ok hN, Option.bind_some, hh, wrapF_i64 (by omega) (by omega)]
    unfold pl
    by_cases h : dig (s.getD i 0) < 0
    · rw [deT h, if_pos h, cond_true]
      rfl
    · rw [deF h, if_neg h, cond_false, deT (p := (0 : Int) ≤ ((i / 2 : Nat) : Int)) (by omega), deT (p := ((i / 2 : Nat) : Int) < 32) (by omega), Bool.and_self, cond_true, Int.toNat_natCast, deT (p := i / 2 < d.length) (by omega), cond_true, cond_true, cond_true,
        show (EK.dflt (.int .u8)) = (0 : Int) from rfl, step2, wrapF_i64 (by omega) (by omega), ← hnx, show (i : Int) + 1 = ((i + 1 : Nat) : Int) by omega,
        ih (i + 1) f _ (by omega) (by omega) (by rw [List.length_set]; exact hd) (hb.set _ (stepD_bd _ _))]

/-- What a text is read as. -/
def parseS (s : List UInt8) : List Int × Int × Int := match pl s (min s.length 64) 0 z32 with
  | .inl (i, d) => (z32, 50, i)
  | .inr d => if s.length < 64 then (z32, 3, (s.length : Int)) else if 64 < s.length then (z32, 4, 64) else (d, 0, 0)

theorem parse_ok {N : Nat} {s : List UInt8} (hl : s.length < 1000000) (hN : 64 < N) : sha_Parse N s = some (parseS s) := by
  unfold sha_Parse sha_Parse_l0
  have e : (if (64 : Int) < ((s.length : Nat) : Int) then (64 : Int) else ((s.length : Nat) : Int)) = ((min s.length 64 : Nat) : Int) := by
    by_cases h : 64 < s.length
    · rw [if_pos (by omega), Nat.min_eq_right (by omega)]; rfl
    · rw [if_neg (by omega), Nat.min_eq_left (by omega)]
  have h := parse_loop (N := N) (s := s) (m := min s.length 64) (Nat.min_le_right _ _) (Nat.min_le_left _ _) (min s.length 64) 0 N z32 (by omega) (by omega) rfl z32_bt
  dsimp only
  rw [e]
  have h' : loopF (sha_Parse_b0 N) N (s, ((min s.length 64 : Nat) : Int), (0 : Int), List.replicate 32 (EK.dflt (.int .u8)), List.replicate 32 (EK.dflt (.int .u8))) = some (out (pl s (min s.length 64) 0 z32)) := h
  rw [h', Option.bind_some]
  unfold parseS
  cases pl s (min s.length 64) 0 z32 with
  | inl y => obtain ⟨i, d⟩ := y; rfl
  | inr d =>
    show cond _ _ _ = _
    dsimp only
    by_cases h1 : s.length < 64
    · rw [deT (by omega), cond_true, if_pos h1]; rfl
    · rw [deF (p := ((s.length : Nat) : Int) < 64) (by omega), cond_false, if_neg h1]
      by_cases h2 : 64 < s.length
      · rw [deT (by omega), cond_true, if_pos h2]; rfl
      · rw [deF (by omega), cond_false, if_neg h2]

theorem rparse_ok {N : Nat} {s : List UInt8} (hl : s.length < 1000000) (hN : 64 < N) : granaryref05_Parse N s = some (parseS s) := by
  unfold granaryref05_Parse granaryref05_Parse_l0
  have h := rparse_loop (N := N) (s := s) rfl (by omega) hl (min s.length 64) 0 N z32 (by omega) (by omega) rfl z32_bt
  have h' : loopF (granaryref05_Parse_b0 N) N (s, (0 : Int), List.replicate 32 (EK.dflt (.int .u8)), List.replicate 32 (EK.dflt (.int .u8))) = some (out (pl s (min s.length 64) 0 z32)) := h
  rw [h', Option.bind_some]
  unfold parseS
  cases pl s (min s.length 64) 0 z32 with
  | inl y => obtain ⟨i, d⟩ := y; rfl
  | inr d =>
    show cond _ _ _ = _
    dsimp only
    by_cases h1 : s.length < 64
    · rw [deT (by omega), cond_true, if_pos h1]; rfl
    · rw [deF (p := ((s.length : Nat) : Int) < 64) (by omega), cond_false, if_neg h1]
      by_cases h2 : 64 < s.length
      · rw [deT (by omega), cond_true, if_pos h2]; rfl
      · rw [deF (by omega), cond_false, if_neg h2]

/-! Laid as digits -/

def hexI (d : List Int) : List Int := d.flatMap fun x => [((hx.getD (x.toNat / 16) 0).toNat : Int), ((hx.getD (x.toNat % 16) 0).toNat : Int)]
def hexS (d : List Int) : List UInt8 := d.flatMap fun x => [hx.getD (x.toNat / 16) 0, hx.getD (x.toNat % 16) 0]

theorem hexI_length : ∀ (d : List Int), (hexI d).length = 2 * d.length
  | [] => rfl
  | a :: d => by show (_ :: _ :: hexI d).length = _; rw [List.length_cons, List.length_cons, hexI_length d, List.length_cons]; omega
theorem hexS_length : ∀ (d : List Int), (hexS d).length = 2 * d.length
  | [] => rfl
  | a :: d => by show (_ :: _ :: hexS d).length = _; rw [List.length_cons, List.length_cons, hexS_length d, List.length_cons]; omega
theorem hexI_map : ∀ (d : List Int), (hexI d).map (fun (n : Int) => UInt8.ofNat n.toNat) = hexS d
  | [] => rfl
  | a :: d => by
    show UInt8.ofNat _ :: UInt8.ofNat _ :: (hexI d).map _ = _ :: _ :: hexS d
    rw [hexI_map d, Int.toNat_natCast, Int.toNat_natCast]
    congr 1
    · exact UInt8.ofNat_toNat
    · congr 1; exact UInt8.ofNat_toNat

theorem take_next (d : List Int) (i : Nat) (h : i < d.length) : d.take (i + 1) = d.take i ++ [d.getD i 0] := by
  rw [List.take_add_one, List.getD, List.getElem?_eq_getElem h]; rfl

theorem hex_ok {N : Nat} {d : List Int} (hd : d.length = 32) (hb : Bt d) (hN : 32 < N) : sha_Hex N d = some (hexS d) := by
  have key : sha_Hex_l0 N (d, 0, []) = some (hexI d) := by
    refine loop_iter (b := sha_Hex_b0 N) (r := hexI d) (fun i => (d, (i : Int), hexI (d.take i))) 32 (fun i hi nx => ?_) (fun nx => ?_) N hN
    · unfold sha_Hex_b0
      dsimp only
      have h1 := hb.get i
      obtain ⟨m, hm⟩ : ∃ m : Nat, d.getD i 0 = (m : Int) := ⟨(d.getD i 0).toNat, by omega⟩
      rw [hm] at h1
      have hl := hexI_length (d.take i)
      rw [List.length_take] at hl
      have e4 : shrF .u8 (m : Int) 4 = ((m / 16 : Nat) : Int) := shrF_nat .u8 (a := m) (n := 4) (by decide)
      have e15 : andF .u8 (m : Int) 15 = ((m % 16 : Nat) : Int) := by
        have := andF_nat .u8 (a := m) (b := 15) (by rw [two_pow_topA]; show m < 256; omega) (by decide)
        rw [show ((15 : Nat) : Int) = 15 from rfl] at this
        rw [this, Nat.and_two_pow_sub_one_eq_mod m 4]
      rw [deT (p := (i : Int) < 32) (by omega), cond_true, deT (p := (0 : Int) ≤ (i : Int)) (by omega), Bool.and_self, cond_true, Int.toNat_natCast, show (EK.dflt (.int .u8)) = (0 : Int) from rfl, hm, e4, e15,
        deT (p := (0 : Int) ≤ ((m / 16 : Nat) : Int)) (by omega), deT (p := (0 : Int) ≤ ((m % 16 : Nat) : Int)) (by omega), deT (by show ((m / 16 : Nat) : Int) < 16; omega), deT (by show ((m % 16 : Nat) : Int) < 16; omega), Bool.and_self, cond_true, cond_true, Int.toNat_natCast, Int.toNat_natCast]
      rw [take_next d i (by omega), hm]
      have e2 : ∀ a b : Int, List.take 2 (List.drop 0 [a, b]) = [a, b] := fun a b => rfl
      rw [e2, fits1 (by simp; omega)]
      have e3 : hexI (d.take i ++ [(m : Int)]) = hexI (d.take i) ++ [((hx.getD (m / 16) 0).toNat : Int), ((hx.getD (m % 16) 0).toNat : Int)] := by simp [hexI]
      rw [e3, wrapF_i64 (by omega) (by omega)]
      rfl
    · unfold sha_Hex_b0
      dsimp only
      rw [deF (by decide), cond_false, List.take_of_length_le (by omega)]
  unfold sha_Hex
  rw [key, Option.bind_some, hexI_map]

theorem sub_all : ∀ m : Fin 256, List.take ((Int.toNat (wrapF .u8 (wrapF .u8 (Int.tdiv ((m.val : Nat) : Int) 16) + 1))) - (Int.toNat (wrapF .u8 (Int.tdiv ((m.val : Nat) : Int) 16)))) (List.drop (Int.toNat (wrapF .u8 (Int.tdiv ((m.val : Nat) : Int) 16))) hx) = [hx.getD (m.val / 16) 0]
    ∧ List.take ((Int.toNat (wrapF .u8 (Int.tmod ((m.val : Nat) : Int) 16 + 1))) - (Int.toNat (Int.tmod ((m.val : Nat) : Int) 16))) (List.drop (Int.toNat (Int.tmod ((m.val : Nat) : Int) 16)) hx) = [hx.getD (m.val % 16) 0]
    ∧ ((decide ((0 : Int) ≤ wrapF .u8 (Int.tdiv ((m.val : Nat) : Int) 16)) && decide (wrapF .u8 (Int.tdiv ((m.val : Nat) : Int) 16) ≤ wrapF .u8 (wrapF .u8 (Int.tdiv ((m.val : Nat) : Int) 16) + 1))) && decide (wrapF .u8 (wrapF .u8 (Int.tdiv ((m.val : Nat) : Int) 16) + 1) ≤ ((hx.length : Nat) : Int))) = true
    ∧ ((decide ((0 : Int) ≤ Int.tmod ((m.val : Nat) : Int) 16) && decide (Int.tmod ((m.val : Nat) : Int) 16 ≤ wrapF .u8 (Int.tmod ((m.val : Nat) : Int) 16 + 1))) && decide (wrapF .u8 (Int.tmod ((m.val : Nat) : Int) 16 + 1) ≤ ((hx.length : Nat) : Int))) = true := by decide +kernel

theorem rhex_ok {N : Nat} {d : List Int} (hd : d.length = 32) (hb : Bt d) (hN : 32 < N) : granaryref05_Hex N d = some (hexS d) := by
  have key : granaryref05_Hex_l0 N ([], 0, d) = some (hexS d, d) := by
    refine loop_iter (b := granaryref05_Hex_b0 N) (r := (hexS d, d)) (fun i => (hexS (d.take i), (i : Int), d)) 32 (fun i hi nx => ?_) (fun nx => ?_) N hN
    · have h1 := hb.get i
      obtain ⟨m, hm⟩ : ∃ m : Nat, d.getD i 0 = (m : Int) := ⟨(d.getD i 0).toNat, by omega⟩
      rw [hm] at h1
      have hl := hexS_length (d.take i)
      rw [List.length_take] at hl
      obtain ⟨s1, s2, s3, s4⟩ := sub_all ⟨m, by omega⟩
      simp only [hx, Bool.and_eq_true, decide_eq_true_eq] at s1 s2 s3 s4
      obtain ⟨⟨s3, s5⟩, s6⟩ := s3
      obtain ⟨⟨s4, s7⟩, s8⟩ := s4
      unfold granaryref05_Hex_b0
      dsimp only
      rw [deT (p := (i : Int) < 32) (by omega), cond_true, deT (p := (0 : Int) ≤ (i : Int)) (by omega), Bool.and_self]
      simp only [cond_true, Int.toNat_natCast]
      rw [deT (p := i < d.length) (by omega)]
      simp only [cond_true]
      simp only [show (EK.dflt (.int .u8)) = (0 : Int) from rfl, hm]
      simp only [s3, s5, decide_true, Bool.and_self, s1, s4, s7, s2]
      rw [deT (by exact of_decide_eq_true s6), Bool.and_self, cond_true, deT (by simp; omega), cond_true, deT (by exact of_decide_eq_true s8), Bool.and_self, cond_true, deT (by simp; omega), cond_true]
      rw [take_next d i (by omega), hm]
      have e3 : hexS (d.take i ++ [(m : Int)]) = hexS (d.take i) ++ [hx.getD (m / 16) 0] ++ [hx.getD (m % 16) 0] := by simp [hexS]
      rw [e3, wrapF_i64 (by omega) (by omega)]
      rfl
    · unfold granaryref05_Hex_b0
      dsimp only
      rw [deF (by decide), cond_false, List.take_of_length_le (by omega)]
  unfold granaryref05_Hex
  rw [key]; rfl

/-! There and back -/

theorem hexS_get : ∀ (d : List Int) (j : Nat), j < d.length → (hexS d).getD (2 * j) 0 = hx.getD ((d.getD j 0).toNat / 16) 0 ∧ (hexS d).getD (2 * j + 1) 0 = hx.getD ((d.getD j 0).toNat % 16) 0
  | a :: d, 0, _ => ⟨rfl, rfl⟩
  | a :: d, j + 1, h => by
    have := hexS_get d j (by simpa using h)
    exact this

theorem dig_hx : ∀ m : Fin 16, srch ((hx.getD m.val 0).toNat : Int) 16 0 = ((m.val : Nat) : Int) := by decide +kernel

theorem back_loop {d : List Int} (hd : d.length = 32) (hb : Bt d) : ∀ (k j : Nat), j + k = 32 → pl (hexS d) (2 * k) (2 * j) (d.take j ++ List.replicate k 0) = .inr d := by
  intro k
  induction k with
  | zero =>
    intro j hj
    show Sum.inr _ = _
    rw [List.take_of_length_le (by omega)]
    simp
  | succ k ih =>
    intro j hj
    obtain ⟨g1, g2⟩ := hexS_get d j (by omega)
    have hbd := hb.get j
    have d1 : dig ((hexS d).getD (2 * j) 0) = (((d.getD j 0).toNat / 16 : Nat) : Int) := by rw [g1]; exact dig_hx ⟨(d.getD j 0).toNat / 16, by omega⟩
    have d2 : dig ((hexS d).getD (2 * j + 1) 0) = (((d.getD j 0).toNat % 16 : Nat) : Int) := by rw [g2]; exact dig_hx ⟨(d.getD j 0).toNat % 16, by omega⟩
    rw [show 2 * (k + 1) = 2 * k + 1 + 1 by omega]
    unfold pl
    rw [d1, if_neg (by omega)]
    unfold pl
    rw [d2, if_neg (by omega), show 2 * j / 2 = j by omega, show (2 * j + 1) / 2 = j by omega, show 2 * j + 1 + 1 = 2 * (j + 1) by omega]
    have hl : (d.take j).length = j := by rw [List.length_take]; omega
    have q1 : (d.take j ++ List.replicate (k + 1) (0 : Int)).getD j 0 = 0 := by
      rw [List.getD, List.getElem?_append_right (by omega), hl, Nat.sub_self]; rfl
    have q2 : ∀ v : Int, (d.take j ++ List.replicate (k + 1) (0 : Int)).set j v = d.take j ++ v :: List.replicate k 0 := fun v => by
      rw [List.set_append_right _ _ (by omega), hl, Nat.sub_self, List.replicate_succ, List.set_cons_zero]
    have q3 : ∀ v : Int, (d.take j ++ v :: List.replicate k (0 : Int)).getD j 0 = v := fun v => by
      rw [List.getD, List.getElem?_append_right (by omega), hl, Nat.sub_self]; rfl
    have q4 : ∀ v w : Int, (d.take j ++ v :: List.replicate k (0 : Int)).set j w = d.take j ++ w :: List.replicate k 0 := fun v w => by
      rw [List.set_append_right _ _ (by omega), hl, Nat.sub_self, List.set_cons_zero]
    rw [q1, q2, q3, q4]
    have q5 : stepD (stepD 0 (((d.getD j 0).toNat / 16 : Nat) : Int)) (((d.getD j 0).toNat % 16 : Nat) : Int) = d.getD j 0 := by unfold stepD; omega
    rw [q5]
    have := ih (j + 1) (by omega)
    rw [take_next d j (by omega), List.append_assoc] at this
    exact this

theorem back_ok {d : List Int} (hd : d.length = 32) (hb : Bt d) : parseS (hexS d) = (d, 0, 0) := by
  have hl : (hexS d).length = 64 := by rw [hexS_length, hd]
  have h := back_loop hd hb 32 0 (by omega)
  unfold parseS
  rw [hl]
  have h' : pl (hexS d) (min 64 64) 0 z32 = .inr d := h
  rw [h']
  rfl

end Sha
end Go.Rf.W
