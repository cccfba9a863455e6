/-
  Package sha: the check sum, bit by bit; four bits at a time are the same.
-/
import Derived.Test.YtokfelhleojnjaaPlShaW
set_option linter.unusedVariables false
set_option maxRecDepth 10000
namespace Go.Rf.W
open Go Go.Rf
namespace Sha

/-- One bit. -/
def M (n : Nat) : Nat := if n % 2 = 1 then n / 2 ^^^ 2197175160 else n / 2
def M4 (n : Nat) : Nat := M (M (M (M n)))
def M8 (n : Nat) : Nat := M4 (M4 n)
def crc (x : Nat) : List Int → Nat
  | [] => x
  | b :: p => crc (M8 (x ^^^ b.toNat)) p

theorem M_lt {n : Nat} (h : n < 4294967296) : M n < 4294967296 := by
  unfold M
  split
  · exact Nat.xor_lt_two_pow (n := 32) (by omega) (by decide)
  · omega
theorem M4_lt {n : Nat} (h : n < 4294967296) : M4 n < 4294967296 := M_lt (M_lt (M_lt (M_lt h)))
theorem M8_lt {n : Nat} (h : n < 4294967296) : M8 n < 4294967296 := M4_lt (M4_lt h)
theorem byte_lt {b : Int} (h : 0 ≤ b ∧ b < 256) : b.toNat < 4294967296 := by omega
theorem crc_lt : ∀ (p : List Int) (x : Nat), (∀ b ∈ p, 0 ≤ b ∧ b < 256) → x < 4294967296 → crc x p < 4294967296
  | [], x, _, h => h
  | b :: p, x, hp, h => crc_lt p _ (fun c hc => hp c (by simp [hc])) (M8_lt (Nat.xor_lt_two_pow (n := 32) h (byte_lt (hp b (by simp)))))

theorem M_xor (x y : Nat) : M (x ^^^ 2 * y) = M x ^^^ y := by
  have h1 : (x ^^^ 2 * y) % 2 = x % 2 := by
    rw [show (2 : Nat) = 2 ^ 1 from rfl, Nat.xor_mod_two_pow, Nat.mul_mod_right, Nat.xor_zero]
  have h2 : (x ^^^ 2 * y) / 2 = x / 2 ^^^ y := by
    have e : x / 2 ^^^ 2 * y / 2 = x / 2 ^^^ y := by rw [Nat.mul_div_cancel_left _ (by decide)]
    rw [← e, show (2 : Nat) = 2 ^ 1 from rfl, ← Nat.xor_div_two_pow]
  unfold M
  rw [h1, h2]
  split
  · rw [Nat.xor_assoc, Nat.xor_assoc, Nat.xor_comm y]
  · rfl

theorem M4_xor (x y : Nat) : M4 (x ^^^ 16 * y) = M4 x ^^^ y := by
  unfold M4
  rw [show 16 * y = 2 * (8 * y) by omega, M_xor, show 8 * y = 2 * (4 * y) by omega, M_xor, show 4 * y = 2 * (2 * y) by omega, M_xor, M_xor]

theorem split16 (x : Nat) : x = (x % 16) ^^^ 16 * (x / 16) := by
  apply Nat.eq_of_testBit_eq
  intro i
  rw [Nat.testBit_xor, show (16 : Nat) = 2 ^ 4 from rfl, Nat.testBit_mod_two_pow, Nat.testBit_two_pow_mul, Nat.testBit_div_two_pow]
  by_cases h : i < 4
  · have : ¬ 4 ≤ i := by omega
    simp [h, this]
  · have h4 : 4 ≤ i := by omega
    have : 4 + (i - 4) = i := by omega
    have t : i - 4 + 4 = i := by omega
    simp [h, h4, t]

theorem M4_eq (x : Nat) : M4 x = x / 16 ^^^ M4 (x % 16) := by
  conv => lhs; rw [split16 x]
  rw [M4_xor, Nat.xor_comm]

def T : List Int := [0, 274646895, 549293790, 820201905, 1098587580, 1361435347, 1640403810, 1905808397, 2197175160, 2459548439, 2722862502, 2988265929, 3280808644, 3554919851, 3811624986, 4083052405]
theorem T_eq : sha_steps () = some ((sha_steps ()).getD []) := rfl
theorem T_get : ∀ l : Nat, l < 16 → ((sha_steps ()).getD []).getD l 0 = ((M4 l : Nat) : Int) := by decide +kernel
theorem T_length : ((sha_steps ()).getD []).length = 16 := by decide +kernel

theorem nib {n : Nat} (h : n < 4294967296) : xorF .u32 (shrF .u32 (n : Int) 4) (((sha_steps ()).getD []).getD (n % 16) 0) = ((M4 n : Nat) : Int) := by
  have h1 : shrF .u32 (n : Int) 4 = ((n / 16 : Nat) : Int) := shr32 (k := 4) (by omega)
  rw [h1, T_get _ (Nat.mod_lt _ (by decide)), xorF_nat .u32 (by rw [two_pow_topA]; show n / 16 < 4294967296; omega) (by rw [two_pow_topA]; exact M4_lt (by omega)), ← M4_eq]

theorem and15 {n : Nat} (h : n < 4294967296) : andF .u32 (n : Int) 15 = ((n % 16 : Nat) : Int) := by
  have := andF_nat .u32 (a := n) (b := 15) (by rw [two_pow_topA]; exact h) (by decide)
  rw [show ((15 : Nat) : Int) = 15 from rfl] at this
  rw [this, Nat.and_two_pow_sub_one_eq_mod n 4]

theorem xor32 {a b : Nat} (ha : a < 4294967296) (hb : b < 4294967296) : xorF .u32 (a : Int) (b : Int) = ((a ^^^ b : Nat) : Int) := xorF_nat .u32 (by rw [two_pow_topA]; exact ha) (by rw [two_pow_topA]; exact hb)
theorem xor_lt {a b : Nat} (ha : a < 4294967296) (hb : b < 4294967296) : a ^^^ b < 4294967296 := Nat.xor_lt_two_pow (n := 32) ha hb

theorem byte32 {b : Int} (h : 0 ≤ b ∧ b < 256) : wrapF .u32 b = ((b.toNat : Nat) : Int) := by rw [wrapF_u32 (by omega) (by omega)]; omega

theorem get_at {p : List Int} {i : Nat} (h : i < p.length) : p.getD i (EK.dflt (.int .u8)) = p[i] := by rw [List.getD, List.getElem?_eq_getElem h]; rfl

theorem more_loop {N : Nat} {p : List Int} (hb : ∀ b ∈ p, 0 ≤ b ∧ b < 256) (hl : p.length < 1000000) : ∀ (d f i x : Nat), i + d = p.length → d < f → x < 4294967296 →
    loopF (sha_More_b0 N) f ((x : Int), p, ((p.length : Nat) : Int), (i : Int), (sha_steps ()).getD []) = some (((crc x (p.drop i) : Nat) : Int), (sha_steps ()).getD []) := by
  intro d
  induction d with
  | zero =>
    intro f i x hi hf hx
    obtain ⟨f, rfl⟩ : ∃ g, f = g + 1 := ⟨f - 1, by omega⟩
    show sha_More_b0 N _ _ = _
    unfold sha_More_b0
    dsimp only
    rw [deF (by omega), cond_false, List.drop_of_length_le (by omega)]
    rfl
  | succ d ih =>
    intro f i x hi hf hx
    obtain ⟨f, rfl⟩ : ∃ g, f = g + 1 := ⟨f - 1, by omega⟩
    show sha_More_b0 N (loopF (sha_More_b0 N) f) _ = _
    have hlt : i < p.length := by omega
    have hc := hb p[i] (List.getElem_mem hlt)
    have hy := xor_lt hx (byte_lt hc)
    have hy4 := M4_lt hy
    generalize hnx : loopF (sha_More_b0 N) f = nx
    unfold sha_More_b0
    dsimp only
    rw [deT (p := (i : Int) < ((p.length : Nat) : Int)) (by omega), cond_true, deT (p := (0 : Int) ≤ (i : Int)) (by omega), Bool.and_self, cond_true, Int.toNat_natCast, get_at hlt, byte32 hc, xor32 hx (byte_lt hc), and15 hy, Int.toNat_natCast, show (EK.dflt (.int .u32)) = (0 : Int) from rfl, nib hy, and15 hy4, Int.toNat_natCast, nib hy4]
    have c : ∀ n : Nat, (decide ((0 : Int) ≤ ((n % 16 : Nat) : Int)) && decide (((n % 16 : Nat) : Int) < 16)) = true := fun n => by
      rw [deT (by omega), deT (by omega)]; rfl
    have e : ∀ n : Nat, decide (n % 16 < ((sha_steps ()).getD []).length) = true := fun n => deT (by rw [T_length]; omega)
    rw [c, cond_true, e, cond_true, c, cond_true, e, cond_true, wrapF_i64 (by omega) (by omega), ← hnx]
    rw [show (i : Int) + 1 = ((i + 1 : Nat) : Int) by omega, ih f (i + 1) _ (by omega) (by omega) (M4_lt hy4), List.drop_eq_getElem_cons hlt]
    rfl

def flip (x : Nat) : Nat := 4294967295 ^^^ x
theorem flip_ok {x : Nat} (h : x < 4294967296) : xorF .u32 4294967295 (x : Int) = ((flip x : Nat) : Int) := xor32 (a := 4294967295) (by decide) h
theorem flip_lt {x : Nat} (h : x < 4294967296) : flip x < 4294967296 := xor_lt (by decide) h

theorem more_ok {N x : Nat} {p : List Int} (hb : ∀ b ∈ p, 0 ≤ b ∧ b < 256) (hl : p.length < 1000000) (hx : x < 4294967296) (hN : p.length < N) : sha_More N ((x : Int), p) = some ((flip (crc (flip x) p) : Nat) : Int) := by
  unfold sha_More
  have h := more_loop (N := N) hb hl p.length N 0 (flip x) (by omega) hN (flip_lt hx)
  rw [T_eq, Option.bind_some]
  dsimp only
  rw [flip_ok hx]
  unfold sha_More_l0
  rw [show (0 : Int) = ((0 : Nat) : Int) from rfl, h, Option.bind_some, List.drop_zero]
  dsimp only
  rw [flip_ok (crc_lt p _ hb (flip_lt hx))]

theorem more1_eq (N : Nat) : sha_More_v1 N = sha_More N := rfl

theorem bit_step {n : Nat} (h : n < 4294967296) : (Option.bind (cond (decide (andF .u32 (n : Int) 1 = 1)) (some (xorF .u32 (shrF .u32 (n : Int) 1) 2197175160)) (some (shrF .u32 (n : Int) 1))) : (Int → Option Int) → Option Int) = fun k => k ((M n : Nat) : Int) := by
  have h1 : shrF .u32 (n : Int) 1 = ((n / 2 : Nat) : Int) := shr32 (k := 1) (by omega)
  have h2 : andF .u32 (n : Int) 1 = ((n % 2 : Nat) : Int) := by
    have := andF_nat .u32 (a := n) (b := 1) (by rw [two_pow_topA]; exact h) (by decide)
    rw [show ((1 : Nat) : Int) = 1 from rfl] at this
    rw [this, Nat.and_one_is_mod]
  have h3 : xorF .u32 ((n / 2 : Nat) : Int) 2197175160 = ((n / 2 ^^^ 2197175160 : Nat) : Int) := xor32 (b := 2197175160) (by omega) (by decide)
  rw [h1, h2, h3]
  funext k
  unfold M
  by_cases e : n % 2 = 1
  · rw [deT (by omega), if_pos e]; rfl
  · rw [deF (by omega), if_neg e]; rfl

theorem bits_ok {N : Nat} {p : List Int} {i : Int} {n : Nat} (h : n < 4294967296) (hN : 8 < N) : granaryref05_More_l2 N (p, (n : Int), i, 0) = some ((M8 n : Nat) : Int) := by
  have hs : ∀ (m : Nat) (k : Int) (nx : List Int × Int × Int × Int → Option Int), m < 4294967296 → 0 ≤ k → k < 8 → granaryref05_More_b2 N nx (p, (m : Int), i, k) = nx (p, ((M m : Nat) : Int), i, k + 1) := fun m k nx hm h0 h1 => by
    unfold granaryref05_More_b2
    dsimp only
    rw [deT h1, cond_true, wrapF_i64 (by omega) (by omega), bit_step hm]
  have he : ∀ (f : Nat) (m : Nat) (k : Int), granaryref05_More_b2 N (loopF (granaryref05_More_b2 N) f) (p, (m : Int), i, 0 + 1 + 1 + 1 + 1 + 1 + 1 + 1 + 1) = some (m : Int) := fun f m k => rfl
  obtain ⟨f, rfl⟩ : ∃ g, N = g + 9 := ⟨N - 9, by omega⟩
  have h1 := M_lt h; have h2 := M_lt h1; have h3 := M_lt h2; have h4 := M_lt h3; have h5 := M_lt h4; have h6 := M_lt h5; have h7 := M_lt h6
  unfold granaryref05_More_l2
  generalize granaryref05_More_b2 (f + 9) = b at hs he ⊢
  have e : ∀ (k : Nat) (x : List Int × Int × Int × Int), loopF b (k + 1) x = b (loopF b k) x := fun _ _ => rfl
  rw [e (f + 8), hs n 0 _ h (by decide) (by decide), e (f + 7), hs _ _ _ h1 (by decide) (by decide), e (f + 6), hs _ _ _ h2 (by decide) (by decide), e (f + 5), hs _ _ _ h3 (by decide) (by decide),
    e (f + 4), hs _ _ _ h4 (by decide) (by decide), e (f + 3), hs _ _ _ h5 (by decide) (by decide), e (f + 2), hs _ _ _ h6 (by decide) (by decide), e (f + 1), hs _ _ _ h7 (by decide) (by decide)]
  rw [e f]
  exact he f _ 0
theorem rmore_loop {N : Nat} {p : List Int} (hb : ∀ b ∈ p, 0 ≤ b ∧ b < 256) (hl : p.length < 1000000) (hN : 8 < N) : ∀ (d f i x : Nat), i + d = p.length → d < f → x < 4294967296 →
    loopF (granaryref05_More_b0 N) f (p, (x : Int), (i : Int)) = some ((crc x (p.drop i) : Nat) : Int) := by
  intro d
  induction d with
  | zero =>
    intro f i x hi hf hx
    obtain ⟨f, rfl⟩ : ∃ g, f = g + 1 := ⟨f - 1, by omega⟩
    show granaryref05_More_b0 N _ _ = _
    unfold granaryref05_More_b0
    dsimp only
    rw [deF (by omega), cond_false, List.drop_of_length_le (by omega)]
    rfl
  | succ d ih =>
    intro f i x hi hf hx
    obtain ⟨f, rfl⟩ : ∃ g, f = g + 1 := ⟨f - 1, by omega⟩
    show granaryref05_More_b0 N (loopF (granaryref05_More_b0 N) f) _ = _
    have hlt : i < p.length := by omega
    have hc := hb p[i] (List.getElem_mem hlt)
    have hy := xor_lt hx (byte_lt hc)
    generalize hnx : loopF (granaryref05_More_b0 N) f = nx
    unfold granaryref05_More_b0
    dsimp only
    rw [deT (p := (i : Int) < ((p.length : Nat) : Int)) (by omega), cond_true, deT (p := (0 : Int) ≤ (i : Int)) (by omega), Bool.and_self, cond_true, Int.toNat_natCast, get_at hlt, byte32 hc, xor32 hx (byte_lt hc), bits_ok hy hN, Option.bind_some, wrapF_i64 (by omega) (by omega), ← hnx]
    rw [show (i : Int) + 1 = ((i + 1 : Nat) : Int) by omega, ih f (i + 1) _ (by omega) (by omega) (M8_lt hy), List.drop_eq_getElem_cons hlt]
    rfl

theorem rmore_ok {N x : Nat} {p : List Int} (hb : ∀ b ∈ p, 0 ≤ b ∧ b < 256) (hl : p.length < 1000000) (hx : x < 4294967296) (hN : p.length + 8 < N) : granaryref05_More N ((x : Int), p) = some ((flip (crc (flip x) p) : Nat) : Int) := by
  unfold granaryref05_More
  have h := rmore_loop (N := N) hb hl (by omega) p.length N 0 (flip x) (by omega) (by omega) (flip_lt hx)
  dsimp only
  rw [flip_ok hx]
  unfold granaryref05_More_l0
  rw [show (0 : Int) = ((0 : Nat) : Int) from rfl, h, Option.bind_some, List.drop_zero, flip_ok (crc_lt p _ hb (flip_lt hx))]

theorem Crc_ok {N : Nat} {p : List Int} (hb : ∀ b ∈ p, 0 ≤ b ∧ b < 256) (hl : p.length < 1000000) (hN : p.length < N) : sha_Crc N p = some ((flip (crc (flip 0) p) : Nat) : Int) := by
  unfold sha_Crc
  try rw [more1_eq]
  have := more_ok (N := N) (x := 0) hb hl (by decide) hN
  rw [show ((0 : Nat) : Int) = 0 from rfl] at this
  rw [this]; rfl
theorem Crc1_ok {N : Nat} {p : List Int} (hb : ∀ b ∈ p, 0 ≤ b ∧ b < 256) (hl : p.length < 1000000) (hN : p.length < N) : sha_Crc_v1 N p = some ((flip (crc (flip 0) p) : Nat) : Int) := by
  unfold sha_Crc_v1
  try rw [more1_eq]
  have := more_ok (N := N) (x := 0) hb hl (by decide) hN
  rw [show ((0 : Nat) : Int) = 0 from rfl] at this
  rw [this]; rfl
theorem rCrc_ok {N : Nat} {p : List Int} (hb : ∀ b ∈ p, 0 ≤ b ∧ b < 256) (hl : p.length < 1000000) (hN : p.length + 8 < N) : granaryref05_Crc N p = some ((flip (crc (flip 0) p) : Nat) : Int) := by
  unfold granaryref05_Crc
  have := rmore_ok (N := N) (x := 0) hb hl (by decide) hN
  rw [show ((0 : Nat) : Int) = 0 from rfl] at this
  rw [this]; rfl

end Sha
end Go.Rf.W
