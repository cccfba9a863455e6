/-
  Inodes: read out of bytes.
-/
import Derived.Test.YtcehhkdpdehjhaaPlInoBytes
set_option linter.unusedVariables false
set_option maxRecDepth 10000
namespace Go.Rf.W
open Go Go.Rf

/-- Is there a byte that is not 0? -/
def nz : List Int → Bool
  | [] => false
  | c :: l => !(decide (c = 0)) || nz l

theorem indexF_loop {N : Nat} (l : List Int) (hl : l.length < 1000000) : ∀ (d f i : Nat), i + d = l.length → d < f →
    ∃ r, loopF (slices_IndexFunc_byte_byte_b0 N) f (l, ((l.length : Nat) : Int), (i : Int)) = some r ∧
      ((nz (l.drop i) = true ∧ ∃ j : Nat, r = .inl (j : Int)) ∨ (nz (l.drop i) = false ∧ r = .inr ())) := by
  intro d
  induction d with
  | zero =>
    intro f i hi hf
    obtain ⟨f, rfl⟩ : ∃ g, f = g + 1 := ⟨f - 1, by omega⟩
    refine ⟨.inr (), ?_, .inr ⟨?_, rfl⟩⟩
    · show slices_IndexFunc_byte_byte_b0 N _ _ = _
      unfold slices_IndexFunc_byte_byte_b0
      dsimp only
      rw [deF (by omega), cond_false]
    · rw [List.drop_of_length_le (by omega)]; rfl
  | succ d ih =>
    intro f i hi hf
    obtain ⟨f, rfl⟩ : ∃ g, f = g + 1 := ⟨f - 1, by omega⟩
    have hlt : i < l.length := by omega
    have hd : l.drop i = l[i] :: l.drop (i + 1) := List.drop_eq_getElem_cons hlt
    have hg : List.getD l i (EK.dflt (.int .u8)) = l[i] := by simp [List.getD, hlt]
    show ∃ r, slices_IndexFunc_byte_byte_b0 N (loopF (slices_IndexFunc_byte_byte_b0 N) f) _ = some r ∧ _
    generalize hnx : loopF (slices_IndexFunc_byte_byte_b0 N) f = nx
    unfold slices_IndexFunc_byte_byte_b0 inode_Get_1
    dsimp only
    rw [deT (p := (i : Int) < ((l.length : Nat) : Int)) (by omega), deT (p := (0 : Int) ≤ (i : Int)) (by omega), cond_true, Bool.and_self, cond_true, Int.toNat_natCast, hg, Option.bind_some, wrapF_i64 (by omega) (by omega)]
    rw [hd, nz]
    cases decide (l[i] = 0) with
    | false => exact ⟨_, rfl, .inl ⟨rfl, i, rfl⟩⟩
    | true =>
      obtain ⟨r, h1, h2⟩ := ih f (i + 1) (by omega) (by omega)
      have e1 : ((i : Int) + 1) = ((i + 1 : Nat) : Int) := by omega
      rw [e1]
      exact ⟨r, by rw [← hnx]; exact h1, h2⟩

theorem containsF_ok {N : Nat} {l : List Int} (hl : l.length < 1000000) (hN : l.length < N) : slices_ContainsFunc_byte_byte N l = some (nz l) := by
  obtain ⟨r, h1, h2⟩ := indexF_loop (N := N) l hl l.length N 0 (by omega) hN
  unfold slices_ContainsFunc_byte_byte slices_IndexFunc_byte_byte slices_IndexFunc_byte_byte_l0
  have e0 : ((0 : Nat) : Int) = 0 := rfl
  rw [e0] at h1
  rw [h1]
  rw [List.drop_zero] at h2
  rcases h2 with ⟨h3, j, rfl⟩ | ⟨h3, rfl⟩
  · rw [h3]; simp
  · rw [h3]; rfl

theorem refNz_loop {N : Nat} (l : List Int) (a : Int) (s : List UInt8) (hl : l.length < 1000000) : ∀ (d f i : Nat), i + d = l.length → d < f →
    loopF (granaryref12_Get_b0 N) f (l, a, ((l.length : Nat) : Int), (i : Int), s) = some (cond (nz (l.drop i)) (.inl []) (.inr s)) := by
  intro d
  induction d with
  | zero =>
    intro f i hi hf
    obtain ⟨f, rfl⟩ : ∃ g, f = g + 1 := ⟨f - 1, by omega⟩
    show granaryref12_Get_b0 N _ _ = _
    unfold granaryref12_Get_b0
    dsimp only
    rw [deF (by omega), cond_false, List.drop_of_length_le (by omega)]
    rfl
  | succ d ih =>
    intro f i hi hf
    obtain ⟨f, rfl⟩ : ∃ g, f = g + 1 := ⟨f - 1, by omega⟩
    have hlt : i < l.length := by omega
    have hd : l.drop i = l[i] :: l.drop (i + 1) := List.drop_eq_getElem_cons hlt
    have hg : List.getD l i (EK.dflt (.int .u8)) = l[i] := by simp [List.getD, hlt]
    show granaryref12_Get_b0 N (loopF (granaryref12_Get_b0 N) f) _ = _
    generalize hnx : loopF (granaryref12_Get_b0 N) f = nx
    unfold granaryref12_Get_b0
    dsimp only
    rw [deT (p := (i : Int) < ((l.length : Nat) : Int)) (by omega), deT (p := (0 : Int) ≤ (i : Int)) (by omega), cond_true, Bool.and_self, cond_true, Int.toNat_natCast, hg, wrapF_i64 (by omega) (by omega)]
    rw [hd, nz]
    cases decide (l[i] = 0) with
    | false => rfl
    | true =>
      have e1 : ((i : Int) + 1) = ((i + 1 : Nat) : Int) := by omega
      rw [e1, ← hnx]
      exact ih f (i + 1) (by omega) (by omega)

/-- A number of k bytes at a place. -/
def F (l : List Int) (i k : Nat) : Nat := val ((l.drop i).take k)

theorem F4_lt {l : List Int} (hb : ∀ x ∈ l, 0 ≤ x ∧ x < 256) (i : Nat) : F l i 4 < 4294967296 := val4_lt hb i
theorem F8_lt {l : List Int} (hb : ∀ x ∈ l, 0 ≤ x ∧ x < 256) (i : Nat) : F l i 8 < 18446744073709551616 := by
  have := val_lt (sub_bytes hb i 8) (k := 8) (by simp; omega)
  exact this

def toS (l : List Int) : List UInt8 := List.map (fun (n : Int) => UInt8.ofNat n.toNat) l

abbrev Ino := Int × Int × Int × Int × Int × Int × Int × Int × Int × Int × Int × Int × Int × (List UInt8)

def inoOf (l : List Int) : Ino :=
  ((F l 0 8 : Int), (F l 8 4 : Int), (F l 12 4 : Int), (F l 16 4 : Int), (F l 20 4 : Int), (F l 24 4 : Int), (F l 28 4 : Int), (F l 32 8 : Int), (F l 40 8 : Int), (F l 48 8 : Int), (F l 56 8 : Int), (F l 64 8 : Int), (F l 72 8 : Int), toS ((l.drop 84).take (F l 80 4)))

def zeroI (e : Int) : Int × Int × Int × Int × Int × Int × Int × Int × Int × Int × Int × Int × Int × (List UInt8) × Int := (0, 0, 0, 0, 0, 0, 0, 0, 0, 0, 0, 0, 0, [], e)
def withE (x : Ino) (e : Int) : Int × Int × Int × Int × Int × Int × Int × Int × Int × Int × Int × Int × Int × (List UInt8) × Int :=
  (x.1, x.2.1, x.2.2.1, x.2.2.2.1, x.2.2.2.2.1, x.2.2.2.2.2.1, x.2.2.2.2.2.2.1, x.2.2.2.2.2.2.2.1, x.2.2.2.2.2.2.2.2.1, x.2.2.2.2.2.2.2.2.2.1, x.2.2.2.2.2.2.2.2.2.2.1, x.2.2.2.2.2.2.2.2.2.2.2.1, x.2.2.2.2.2.2.2.2.2.2.2.2.1, x.2.2.2.2.2.2.2.2.2.2.2.2.2, e)

def chk (x : Ino) : Int := (inode_Check x).getD 0
theorem chk_ok (x : Ino) : inode_Check x = some (chk x) := by
  obtain ⟨e, he⟩ := ino_check_total x
  rw [chk, he]; rfl

/-- The inode of bytes. -/
def GI (l : List Int) : Int × Int × Int × Int × Int × Int × Int × Int × Int × Int × Int × Int × Int × (List UInt8) × Int :=
  if l.length < 84 then zeroI 3
  else if 255 < F l 80 4 then zeroI 1
  else if l.length < 84 + F l 80 4 + pad (F l 80 4) then zeroI 3
  else if 84 + F l 80 4 + pad (F l 80 4) < l.length then zeroI 4
  else if nz (l.drop (84 + F l 80 4)) then zeroI 120
  else if chk (inoOf l) = 0 then withE (inoOf l) 0
  else zeroI (chk (inoOf l))

theorem get2_ok {N i : Nat} {l : List Int} (hb : ∀ x ∈ l, 0 ≤ x ∧ x < 256) (hi : i ≤ 5) (hl : 84 ≤ l.length) (hl2 : l.length < 1000000) (hN : 8 < N) : inode_Get_2 N ((i : Int), l) = some ((F l (8 + 4 * i) 4 : Nat) : Int) := by
  unfold inode_Get_2
  dsimp only
  have e1 : wrapF .i64 ((4 : Int) * (i : Int)) = ((4 * i : Nat) : Int) := by rw [wrapF_i64 (by omega) (by omega)]; omega
  have e2 : wrapF .i64 ((8 : Int) + ((4 * i : Nat) : Int)) = ((8 + 4 * i : Nat) : Int) := by rw [wrapF_i64 (by omega) (by omega)]; omega
  have e3 : wrapF .i64 ((12 : Int) + ((4 * i : Nat) : Int)) = ((12 + 4 * i : Nat) : Int) := by rw [wrapF_i64 (by omega) (by omega)]; omega
  rw [e1, e2, e3, deT (p := (0 : Int) ≤ ((8 + 4 * i : Nat) : Int)) (by omega), deT (p := ((8 + 4 * i : Nat) : Int) ≤ ((12 + 4 * i : Nat) : Int)) (by omega), deT (p := ((12 + 4 * i : Nat) : Int) ≤ ((l.length : Nat) : Int)) (by omega)]
  simp only [Bool.and_self, cond_true]
  rw [Int.toNat_natCast, Int.toNat_natCast, show 12 + 4 * i - (8 + 4 * i) = 4 by omega, get_ok (sub_bytes hb _ 4) (by simp; omega) hN, Option.bind_some, w32 (val4_lt hb _)]
  rfl

theorem get3_ok {N i : Nat} {l : List Int} (hb : ∀ x ∈ l, 0 ≤ x ∧ x < 256) (hi : i ≤ 5) (hl : 84 ≤ l.length) (hl2 : l.length < 1000000) (hN : 8 < N) : inode_Get_3 N ((i : Int), l) = some ((F l (32 + 8 * i) 8 : Nat) : Int) := by
  unfold inode_Get_3
  dsimp only
  have e1 : wrapF .i64 ((8 : Int) * (i : Int)) = ((8 * i : Nat) : Int) := by rw [wrapF_i64 (by omega) (by omega)]; omega
  have e2 : wrapF .i64 ((32 : Int) + ((8 * i : Nat) : Int)) = ((32 + 8 * i : Nat) : Int) := by rw [wrapF_i64 (by omega) (by omega)]; omega
  have e3 : wrapF .i64 ((40 : Int) + ((8 * i : Nat) : Int)) = ((40 + 8 * i : Nat) : Int) := by rw [wrapF_i64 (by omega) (by omega)]; omega
  rw [e1, e2, e3, deT (p := (0 : Int) ≤ ((32 + 8 * i : Nat) : Int)) (by omega), deT (p := ((32 + 8 * i : Nat) : Int) ≤ ((40 + 8 * i : Nat) : Int)) (by omega), deT (p := ((40 + 8 * i : Nat) : Int) ≤ ((l.length : Nat) : Int)) (by omega)]
  simp only [Bool.and_self, cond_true]
  rw [Int.toNat_natCast, Int.toNat_natCast, show 40 + 8 * i - (32 + 8 * i) = 8 by omega, get_ok (sub_bytes hb _ 8) (by simp; omega) hN, Option.bind_some]
  rfl

theorem getI_ok {N : Nat} {l : List Int} (hN : 300 < N) (hb : ∀ x ∈ l, 0 ≤ x ∧ x < 256) (hl2 : l.length < 100000) : inode_Get N l = some (GI l) := by
  unfold inode_Get GI
  by_cases h1 : l.length < 84
  · rw [if_pos h1, deT (by omega), cond_true]; rfl
  rw [if_neg h1, deF (by omega), cond_false, deT (p := (84 : Int) ≤ ((l.length : Nat) : Int)) (by omega), cond_true, get_ok (sub_bytes hb 80 4) (by simp; omega) (by omega), Option.bind_some, show ((val ((l.drop 80).take 4) : Nat) : Int) = ((F l 80 4 : Nat) : Int) from rfl]
  dsimp only
  have hn4 := F4_lt hb 80
  by_cases h2 : 255 < F l 80 4
  · rw [if_pos h2, deT (by omega), cond_true]; rfl
  rw [if_neg h2, deF (by omega), cond_false]
  generalize hn : F l 80 4 = n at h2 hn4 ⊢
  have e1 : wrapF .i64 (n : Int) = (n : Int) := wrapF_i64 (by omega) (by omega)
  have e2 : wrapF .i64 ((84 : Int) + (n : Int)) = ((84 + n : Nat) : Int) := by rw [wrapF_i64 (by omega) (by omega)]; omega
  have e3 : pad (84 + n) = pad n := by unfold pad; omega
  have hp : pad n < 4 := by unfold pad; omega
  have e4 : wrapF .i64 (((84 + n : Nat) : Int) + ((pad n : Nat) : Int)) = ((84 + n + pad n : Nat) : Int) := by rw [wrapF_i64 (by omega) (by omega)]; omega
  rw [e1, e2, and3 (n := 84 + n) (by omega), e3, e4]
  by_cases h3 : l.length < 84 + n + pad n
  · rw [if_pos h3, deT (by omega), cond_true]; rfl
  rw [if_neg h3, deF (by omega), cond_false]
  by_cases h4 : 84 + n + pad n < l.length
  · rw [if_pos h4, deT (by omega), cond_true]; rfl
  rw [if_neg h4, deF (by omega), cond_false, deT (p := (0 : Int) ≤ ((84 + n : Nat) : Int)) (by omega), deT (p := ((84 + n : Nat) : Int) ≤ ((l.length : Nat) : Int)) (by omega), deT (p := ((l.length : Nat) : Int) ≤ ((l.length : Nat) : Int)) (by omega), deT (p := (8 : Int) ≤ ((l.length : Nat) : Int)) (by omega), deT (p := (84 : Int) ≤ ((84 + n : Nat) : Int)) (by omega)]
  simp only [Bool.and_self, cond_true]
  rw [Int.toNat_natCast, List.take_of_length_le (by simp), containsF_ok (by simp; omega) (by simp; omega), Option.bind_some]
  cases hz : nz (l.drop (84 + n)) with
  | true => rfl
  | false =>
    rw [cond_false, if_neg (by simp), get_ok (sub_bytes hb 0 8) (by simp; omega) (by omega), Option.bind_some]
    have g0 : inode_Get_2 N ((0 : Int), l) = _ := get2_ok (i := 0) hb (by omega) (by omega) (by omega) (by omega)
    have g1 : inode_Get_2 N ((1 : Int), l) = _ := get2_ok (i := 1) hb (by omega) (by omega) (by omega) (by omega)
    have g2 : inode_Get_2 N ((2 : Int), l) = _ := get2_ok (i := 2) hb (by omega) (by omega) (by omega) (by omega)
    have g3 : inode_Get_2 N ((3 : Int), l) = _ := get2_ok (i := 3) hb (by omega) (by omega) (by omega) (by omega)
    have g4 : inode_Get_2 N ((4 : Int), l) = _ := get2_ok (i := 4) hb (by omega) (by omega) (by omega) (by omega)
    have g5 : inode_Get_2 N ((5 : Int), l) = _ := get2_ok (i := 5) hb (by omega) (by omega) (by omega) (by omega)
    have k0 : inode_Get_3 N ((0 : Int), l) = _ := get3_ok (i := 0) hb (by omega) (by omega) (by omega) (by omega)
    have k1 : inode_Get_3 N ((1 : Int), l) = _ := get3_ok (i := 1) hb (by omega) (by omega) (by omega) (by omega)
    have k2 : inode_Get_3 N ((2 : Int), l) = _ := get3_ok (i := 2) hb (by omega) (by omega) (by omega) (by omega)
    have k3 : inode_Get_3 N ((3 : Int), l) = _ := get3_ok (i := 3) hb (by omega) (by omega) (by omega) (by omega)
    have k4 : inode_Get_3 N ((4 : Int), l) = _ := get3_ok (i := 4) hb (by omega) (by omega) (by omega) (by omega)
    have k5 : inode_Get_3 N ((5 : Int), l) = _ := get3_ok (i := 5) hb (by omega) (by omega) (by omega) (by omega)
    rw [g0, Option.bind_some, g1, Option.bind_some, g2, Option.bind_some, g3, Option.bind_some, g4, Option.bind_some, g5, Option.bind_some, k0, Option.bind_some, k1, Option.bind_some, k2, Option.bind_some, k3, Option.bind_some, k4, Option.bind_some, k5, Option.bind_some]
    have hk4 := F4_lt hb (8 + 4 * 1)
    have ek : wrapF .i64 ((F l (8 + 4 * 1) 4 : Nat) : Int) = ((F l (8 + 4 * 1) 4 : Nat) : Int) := wrapF_i64 (by omega) (by omega)
    rw [ek, show 84 + n - 84 = n by omega]
    have hx : inode_Check ((F l 0 8 : Int), (F l 8 4 : Int), (F l 12 4 : Int), (F l 16 4 : Int), (F l 20 4 : Int), (F l 24 4 : Int), (F l 28 4 : Int), (F l 32 8 : Int), (F l 40 8 : Int), (F l 48 8 : Int), (F l 56 8 : Int), (F l 64 8 : Int), (F l 72 8 : Int), toS ((l.drop 84).take n)) = some (chk (inoOf l)) := by
      have hio : inoOf l = ((F l 0 8 : Int), (F l 8 4 : Int), (F l 12 4 : Int), (F l 16 4 : Int), (F l 20 4 : Int), (F l 24 4 : Int), (F l 28 4 : Int), (F l 32 8 : Int), (F l 40 8 : Int), (F l 48 8 : Int), (F l 56 8 : Int), (F l 64 8 : Int), (F l 72 8 : Int), toS ((l.drop 84).take n)) := by unfold inoOf; rw [hn]
      rw [hio]; exact chk_ok _
    have hx2 : inode_Check (((val ((l.drop 0).take 8) : Nat) : Int), ((F l (8 + 4 * 0) 4 : Nat) : Int), ((F l (8 + 4 * 1) 4 : Nat) : Int), ((F l (8 + 4 * 2) 4 : Nat) : Int), ((F l (8 + 4 * 3) 4 : Nat) : Int), ((F l (8 + 4 * 4) 4 : Nat) : Int), ((F l (8 + 4 * 5) 4 : Nat) : Int), ((F l (32 + 8 * 0) 8 : Nat) : Int), ((F l (32 + 8 * 1) 8 : Nat) : Int), ((F l (32 + 8 * 2) 8 : Nat) : Int), ((F l (32 + 8 * 3) 8 : Nat) : Int), ((F l (32 + 8 * 4) 8 : Nat) : Int), ((F l (32 + 8 * 5) 8 : Nat) : Int), List.map (fun (n : Int) => UInt8.ofNat n.toNat) (List.take n (List.drop 84 l))) = some (chk (inoOf l)) := hx
    rw [hx2, Option.bind_some]
    by_cases h5 : chk (inoOf l) = 0
    · rw [if_pos h5, deT h5, Bool.not_true, cond_false]
      unfold withE inoOf
      rw [hn]
      rfl
    · rw [if_neg h5, deF h5, Bool.not_false, cond_true]
      rfl

theorem refGetI_ok {N : Nat} {l : List Int} (hN : 300 < N) (hb : ∀ x ∈ l, 0 ≤ x ∧ x < 256) (hl2 : l.length < 100000) : granaryref12_Get N l = some (GI l) := by
  unfold granaryref12_Get GI
  by_cases h1 : l.length < 84
  · rw [if_pos h1, deT (by omega), cond_true]; rfl
  have num := fun (i k : Nat) (h : k ≤ 8) (h' : i + k ≤ 84) => number_ok (N := N) hb (at_ := i) (n := k) h (by omega) (by omega) (by omega)
  have n80 : granaryref12_number N (l, (80 : Int), (4 : Int)) = some ((F l 80 4 : Nat) : Int) := num 80 4 (by omega) (by omega)
  rw [if_neg h1, deF (by omega), cond_false, n80, Option.bind_some]
  dsimp only
  have hn4 := F4_lt hb 80
  by_cases h2 : 255 < F l 80 4
  · rw [if_pos h2, deT (by omega), cond_true]; rfl
  rw [if_neg h2, deF (by omega), cond_false]
  generalize hn : F l 80 4 = n at h2 hn4 ⊢
  have e1 : wrapF .i64 (n : Int) = (n : Int) := wrapF_i64 (by omega) (by omega)
  have e2 : wrapF .i64 ((84 : Int) + (n : Int)) = ((84 + n : Nat) : Int) := by rw [wrapF_i64 (by omega) (by omega)]; omega
  have hp : pad n < 4 := by unfold pad; omega
  have hp2 : (n + 3) / 4 * 4 = n + pad n := by unfold pad; omega
  have e3 : wrapF .i64 ((n : Int) + 3) = ((n + 3 : Nat) : Int) := by rw [wrapF_i64 (by omega) (by omega)]; omega
  have e5 : wrapF .i64 (Int.tdiv ((n + 3 : Nat) : Int) 4) = (((n + 3) / 4 : Nat) : Int) := by
    have : Int.tdiv ((n + 3 : Nat) : Int) 4 = (((n + 3) / 4 : Nat) : Int) := rfl
    rw [this, wrapF_i64 (by omega) (by omega)]
  have e6 : wrapF .i64 ((((n + 3) / 4 : Nat) : Int) * 4) = ((n + pad n : Nat) : Int) := by rw [wrapF_i64 (by omega) (by omega)]; omega
  have e4 : wrapF .i64 ((84 : Int) + ((n + pad n : Nat) : Int)) = ((84 + n + pad n : Nat) : Int) := by rw [wrapF_i64 (by omega) (by omega)]; omega
  rw [e1, e2, e3, e5, e6, e4]
  clear e3 e5 e6 e4 hp2
  by_cases h3 : l.length < 84 + n + pad n
  · rw [if_pos h3, deT (by omega), cond_true]; rfl
  rw [if_neg h3, deF (by omega), cond_false]
  by_cases h4 : 84 + n + pad n < l.length
  · rw [if_pos h4, deT (by omega), cond_true]; rfl
  rw [if_neg h4, deF (by omega), cond_false, deT (p := ((84 + n : Nat) : Int) ≤ ((l.length : Nat) : Int)) (by omega), deT (p := (84 : Int) ≤ ((84 + n : Nat) : Int)) (by omega)]
  have hend : 84 + n + pad n = l.length := by omega
  unfold granaryref12_Get_l0
  rw [hend, refNz_loop l _ _ (by omega) (l.length - (84 + n)) N (84 + n) (by omega) (by omega), Option.bind_some]
  cases hz : nz (l.drop (84 + n)) with
  | true => rfl
  | false =>
    have q0 : granaryref12_number N (l, (0 : Int), (8 : Int)) = some ((F l 0 8 : Nat) : Int) := num 0 8 (by omega) (by omega)
    have q1 : granaryref12_number N (l, (8 : Int), (4 : Int)) = some ((F l 8 4 : Nat) : Int) := num 8 4 (by omega) (by omega)
    have q2 : granaryref12_number N (l, (12 : Int), (4 : Int)) = some ((F l 12 4 : Nat) : Int) := num 12 4 (by omega) (by omega)
    have q3 : granaryref12_number N (l, (16 : Int), (4 : Int)) = some ((F l 16 4 : Nat) : Int) := num 16 4 (by omega) (by omega)
    have q4 : granaryref12_number N (l, (20 : Int), (4 : Int)) = some ((F l 20 4 : Nat) : Int) := num 20 4 (by omega) (by omega)
    have q5 : granaryref12_number N (l, (24 : Int), (4 : Int)) = some ((F l 24 4 : Nat) : Int) := num 24 4 (by omega) (by omega)
    have q6 : granaryref12_number N (l, (28 : Int), (4 : Int)) = some ((F l 28 4 : Nat) : Int) := num 28 4 (by omega) (by omega)
    have q7 : granaryref12_number N (l, (32 : Int), (8 : Int)) = some ((F l 32 8 : Nat) : Int) := num 32 8 (by omega) (by omega)
    have q8 : granaryref12_number N (l, (40 : Int), (8 : Int)) = some ((F l 40 8 : Nat) : Int) := num 40 8 (by omega) (by omega)
    have q9 : granaryref12_number N (l, (48 : Int), (8 : Int)) = some ((F l 48 8 : Nat) : Int) := num 48 8 (by omega) (by omega)
    have q10 : granaryref12_number N (l, (56 : Int), (8 : Int)) = some ((F l 56 8 : Nat) : Int) := num 56 8 (by omega) (by omega)
    have q11 : granaryref12_number N (l, (64 : Int), (8 : Int)) = some ((F l 64 8 : Nat) : Int) := num 64 8 (by omega) (by omega)
    have q12 : granaryref12_number N (l, (72 : Int), (8 : Int)) = some ((F l 72 8 : Nat) : Int) := num 72 8 (by omega) (by omega)
    have hk4 := F4_lt hb 12
    have ek : wrapF .i64 ((F l 12 4 : Nat) : Int) = ((F l 12 4 : Nat) : Int) := wrapF_i64 (by omega) (by omega)
    rw [cond_false, if_neg (by simp)]
    dsimp only
    rw [q0, Option.bind_some, q1, Option.bind_some, q2, Option.bind_some, q3, Option.bind_some, q4, Option.bind_some, q5, Option.bind_some, q6, Option.bind_some, q7, Option.bind_some, q8, Option.bind_some, q9, Option.bind_some, q10, Option.bind_some, q11, Option.bind_some, q12, Option.bind_some]
    simp only [Bool.and_self, cond_true]
    rw [ek, w32 (F4_lt hb 8), w32 (F4_lt hb 16), w32 (F4_lt hb 20), w32 (F4_lt hb 24), w32 (F4_lt hb 28), Int.toNat_natCast, show 84 + n - 84 = n by omega]
    have hx : granaryref12_Check ((F l 0 8 : Int), (F l 8 4 : Int), (F l 12 4 : Int), (F l 16 4 : Int), (F l 20 4 : Int), (F l 24 4 : Int), (F l 28 4 : Int), (F l 32 8 : Int), (F l 40 8 : Int), (F l 48 8 : Int), (F l 56 8 : Int), (F l 64 8 : Int), (F l 72 8 : Int), List.map (fun (n : Int) => UInt8.ofNat n.toNat) (List.take n (List.drop 84 l))) = some (chk (inoOf l)) := by
      rw [← ino_check_eq]
      have hio : inoOf l = ((F l 0 8 : Int), (F l 8 4 : Int), (F l 12 4 : Int), (F l 16 4 : Int), (F l 20 4 : Int), (F l 24 4 : Int), (F l 28 4 : Int), (F l 32 8 : Int), (F l 40 8 : Int), (F l 48 8 : Int), (F l 56 8 : Int), (F l 64 8 : Int), (F l 72 8 : Int), toS ((l.drop 84).take n)) := by unfold inoOf; rw [hn]
      rw [hio]; exact chk_ok _
    rw [hx, Option.bind_some]
    by_cases h5 : chk (inoOf l) = 0
    · rw [if_pos h5, deT h5, Bool.not_true, cond_false]
      unfold withE inoOf
      rw [hn]
      rfl
    · rw [if_neg h5, deF h5, Bool.not_false, cond_true]
      rfl

end Go.Rf.W
