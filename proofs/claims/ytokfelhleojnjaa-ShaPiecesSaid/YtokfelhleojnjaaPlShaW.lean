/-
  Package sha: bytes written piece by piece, the digest; the document's are the same.
-/
import Derived.Test.YtokfelhleojnjaaPlSha
set_option linter.unusedVariables false
set_option maxRecDepth 10000
namespace Go.Rf.W
open Go Go.Rf
namespace Sha

/-- The state behind so many pieces. -/
noncomputable def absorb : Nat → List Int → List Int → List Int
  | 0, s, _ => s
  | k + 1, s, p => absorb k (S s p) (p.drop 64)

theorem absorb_length : ∀ (k : Nat) (s p : List Int), s.length = 8 → (absorb k s p).length = 8
  | 0, _, _, h => h
  | k + 1, s, p, _ => absorb_length k _ _ (S_length s p)

def Bd (s : List Int) : Prop := ∀ x ∈ s, 0 ≤ x ∧ x < 4294967296

theorem absorb_bd : ∀ (k : Nat) (s p : List Int), Bd s → Bd (absorb k s p)
  | 0, _, _, h => h
  | k + 1, s, p, _ => absorb_bd k _ _ (S_bd s p)

theorem clone_ok {x : List Int} (h : x.length < 1000000) : slices_Clone_byte_byte x = some x := by
  unfold slices_Clone_byte_byte
  rw [fits1 h, cond_true]
  cases x with
  | nil => exact agreeC_eq rfl rfl
  | cons a l => simp only [List.length_cons]; rw [deF (by omega)]; rfl

theorem clone1_eq : slices_Clone_byte_byte_v1 = slices_Clone_byte_byte := rfl

theorem wloop {N : Nat} (hN : 64 < N) : ∀ (k f off len : Nat) (s : List Int) (n : Int) (L : List Int), len / 64 = k → off + len = L.length → L.length < 1000000 → s.length = 8 → k < f →
    loopF (sha_Hash_Write_b0 N) f (off, len, s, n, L) = some (off + 64 * k, len % 64, absorb k s (L.drop off), n, L) := by
  intro k
  induction k with
  | zero =>
    intro f off len s n L hk h1 h2 hs hf
    obtain ⟨f, rfl⟩ : ∃ g, f = g + 1 := ⟨f - 1, by omega⟩
    show sha_Hash_Write_b0 N _ _ = _
    unfold sha_Hash_Write_b0
    dsimp only
    rw [deF (by omega), cond_false, Nat.mod_eq_of_lt (by omega)]
    rfl
  | succ k ih =>
    intro f off len s n L hk h1 h2 hs hf
    obtain ⟨f, rfl⟩ : ∃ g, f = g + 1 := ⟨f - 1, by omega⟩
    show sha_Hash_Write_b0 N (loopF (sha_Hash_Write_b0 N) f) _ = _
    generalize hnx : loopF (sha_Hash_Write_b0 N) f = nx
    unfold sha_Hash_Write_b0
    dsimp only
    have hr : sha_Hash_round N (List.take 64 (List.drop (0 + off) L), s, n) = some (S s (L.drop off), n) := by
      rw [round_ok (by simp; omega) (by simp; omega) hs hN, S_take, Nat.zero_add]
    rw [deT (p := (64 : Int) ≤ ((len : Nat) : Int)) (by omega), cond_true, cond_true, deT (p := 0 + off + 64 ≤ L.length) (by omega), cond_true, cond_true, hr, Option.bind_some, deT (p := ((len : Nat) : Int) ≤ ((len : Nat) : Int)) (by omega), Bool.and_self, cond_true, ← hnx,
      ih f (64 + off) (len - 64) _ n L (by omega) (by omega) h2 (S_length _ _) (by omega)]
    have e1 : 64 + off + 64 * k = off + 64 * (k + 1) := by omega
    have e2 : (len - 64) % 64 = len % 64 := by omega
    rw [e1, e2, absorb, List.drop_drop, Nat.add_comm off 64]

theorem write0_ok {N : Nat} {p s : List Int} {n : Int} (hp : p.length < 1000000) (hs : s.length = 8) (hN : 64 < N) (hN2 : p.length / 64 < N) :
    sha_Hash_Write N (p, s, n) = some (absorb (p.length / 64) s p, wrapF .u64 (n + wrapF .u64 ((p.length : Nat) : Int)), p.drop (64 * (p.length / 64))) := by
  unfold sha_Hash_Write sha_Hash_Write_l0
  dsimp only
  rw [fits1 hp, cond_true, wloop hN (p.length / 64) N 0 p.length s _ p rfl (by omega) hp hs hN2, Option.bind_some]
  dsimp only
  have e : (List.take (p.length % 64) (List.drop (0 + 64 * (p.length / 64)) p)) = p.drop (64 * (p.length / 64)) := by
    rw [Nat.zero_add]
    exact List.take_of_length_le (by simp; omega)
  rw [deT (by omega), cond_true, cond_true, e, clone_ok (by simp; omega), Option.bind_some, List.drop_zero]

theorem write1_ok {N : Nat} {p s r : List Int} {n : Int} (hp : r.length + p.length < 1000000) (hs : s.length = 8) (hN : 64 < N) (hN2 : (r ++ p).length / 64 < N) :
    sha_Hash_Write_v1 N (p, s, n, r) = some (absorb ((r ++ p).length / 64) s (r ++ p), wrapF .u64 (n + wrapF .u64 ((p.length : Nat) : Int)), (r ++ p).drop (64 * ((r ++ p).length / 64))) := by
  unfold sha_Hash_Write_v1
  dsimp only
  have e0 : sha_Hash_Write_v1_l0 N = loopF (sha_Hash_Write_b0 N) N := rfl
  have hp' : (r ++ p).length < 1000000 := by simp; omega
  rw [e0, fits1 hp, cond_true]
  generalize hq : r ++ p = q at *
  rw [wloop hN (q.length / 64) N 0 q.length s _ q rfl (by omega) hp' hs hN2, Option.bind_some]
  dsimp only
  have e : (List.take (q.length % 64) (List.drop (0 + 64 * (q.length / 64)) q)) = q.drop (64 * (q.length / 64)) := by
    rw [Nat.zero_add]
    exact List.take_of_length_le (by simp; omega)
  rw [deT (by omega), cond_true, cond_true, e, clone_ok (by simp; omega), Option.bind_some, List.drop_zero]

theorem rwloop {N : Nat} (hN : 64 < N) : ∀ (k f off len : Nat) (s : List Int) (L : List Int), len / 64 = k → off + len = L.length → L.length < 1000000 → s.length = 8 → k < f →
    loopF (granaryref05_Hash_Write_b0 N) f (off, len, s, L) = some (off + 64 * k, len % 64, absorb k s (L.drop off), L) := by
  intro k
  induction k with
  | zero =>
    intro f off len s L hk h1 h2 hs hf
    obtain ⟨f, rfl⟩ : ∃ g, f = g + 1 := ⟨f - 1, by omega⟩
    show granaryref05_Hash_Write_b0 N _ _ = _
    unfold granaryref05_Hash_Write_b0
    dsimp only
    rw [deF (by omega), cond_false, Nat.mod_eq_of_lt (by omega)]
    rfl
  | succ k ih =>
    intro f off len s L hk h1 h2 hs hf
    obtain ⟨f, rfl⟩ : ∃ g, f = g + 1 := ⟨f - 1, by omega⟩
    show granaryref05_Hash_Write_b0 N (loopF (granaryref05_Hash_Write_b0 N) f) _ = _
    generalize hnx : loopF (granaryref05_Hash_Write_b0 N) f = nx
    unfold granaryref05_Hash_Write_b0
    dsimp only
    have ht : List.take len (List.drop off L) = L.drop off := List.take_of_length_le (by simp; omega)
    rw [deT (p := (64 : Int) ≤ ((len : Nat) : Int)) (by omega), cond_true, deT (p := off + len ≤ L.length) (by omega), cond_true, cond_true, ht, piece_ok (by simp; omega) (by simp; omega) hs hN, Option.bind_some, deT (p := ((len : Nat) : Int) ≤ ((len : Nat) : Int)) (by omega), Bool.and_self, cond_true, ← hnx,
      ih f (64 + off) (len - 64) _ L (by omega) (by omega) h2 (S_length _ _) (by omega)]
    have e1 : 64 + off + 64 * k = off + 64 * (k + 1) := by omega
    have e2 : (len - 64) % 64 = len % 64 := by omega
    rw [e1, e2, absorb, List.drop_drop, Nat.add_comm off 64]

theorem rwrite_ok {N : Nat} {p s : List Int} {n : Int} (hp : p.length < 1000000) (hs : s.length = 8) (hN : 64 < N) (hN2 : p.length / 64 < N) :
    granaryref05_Hash_Write N (p, s, n) = some (absorb (p.length / 64) s p, wrapF .u64 (n + wrapF .u64 ((p.length : Nat) : Int)), p.drop (64 * (p.length / 64))) := by
  unfold granaryref05_Hash_Write granaryref05_Hash_Write_l0
  dsimp only
  rw [fits1 (by simp), cond_true, List.length_nil, Nat.zero_add, fits1 hp, cond_true, List.nil_append, rwloop hN (p.length / 64) N 0 p.length s p rfl (by omega) hp hs hN2, Option.bind_some]
  dsimp only
  have e : (List.take (p.length % 64) (List.drop (0 + 64 * (p.length / 64)) p)) = p.drop (64 * (p.length / 64)) := by
    rw [Nat.zero_add]
    exact List.take_of_length_le (by simp; omega)
  rw [e, deT (by omega), fits1 (by simp; omega), Bool.and_self, cond_true, List.drop_zero]

/-! The end -/

/-- How many zeros behind so many bytes. -/
def zs (r : Nat) : Nat := (119 - r % 64) % 64

theorem tmod_nat (a b : Nat) : ((a : Nat) : Int).tmod ((b : Nat) : Int) = ((a % b : Nat) : Int) := rfl

theorem pad_ok {N : Nat} {s rest : List Int} {n : Int} (hr : rest.length < 100000) (hN : 64 < N) :
    sha_Hash_Sum_l0 N (0, 1, s, n, rest, [128]) = some (0, 1 + zs rest.length, s, n, rest, 128 :: List.replicate (zs rest.length) 0) := by
  have hz : zs rest.length < 64 := Nat.mod_lt _ (by decide)
  have hc : ∀ i : Nat, i < 64 → Int.tmod (wrapF .i64 (wrapF .i64 (((rest.length : Nat) : Int) + ((1 + i : Nat) : Int)) + 8)) 64 = (((rest.length + (1 + i) + 8) % 64 : Nat) : Int) := fun i hi => by
    rw [wrapF_i64 (n := ((rest.length : Nat) : Int) + ((1 + i : Nat) : Int)) (by omega) (by omega), wrapF_i64 (by omega) (by omega)]
    have : ((rest.length : Nat) : Int) + ((1 + i : Nat) : Int) + 8 = ((rest.length + (1 + i) + 8 : Nat) : Int) := by omega
    rw [this]
    exact tmod_nat _ 64
  refine loop_iter (b := sha_Hash_Sum_b0 N) (r := (0, 1 + zs rest.length, s, n, rest, 128 :: List.replicate (zs rest.length) 0)) (fun i => (0, 1 + i, s, n, rest, 128 :: List.replicate i 0)) (zs rest.length) (fun i hi nx => ?_) (fun nx => ?_) N (by omega)
  · unfold sha_Hash_Sum_b0
    dsimp only
    rw [hc i (by omega), deF (by simp only [zs] at hi; omega), Bool.not_false, cond_true]
    have e1 : List.take 1 (List.drop 0 [(0 : Int)]) = [0] := rfl
    have e2 : List.drop 0 (128 :: List.replicate i (0 : Int)) ++ [0] = 128 :: List.replicate (i + 1) 0 := by
      rw [List.drop_zero, List.cons_append, List.replicate_succ', ]
    rw [e1, e2, deT (p := 1 ≤ [(0 : Int)].length) (by decide), deT (p := 0 + (1 + i) = (128 :: List.replicate i (0 : Int)).length) (by simp; omega), fits1 (by simp; omega)]
    simp only [Bool.and_self, cond_true, List.length_cons, List.length_replicate]
    rw [show i + 1 + 1 = 1 + (i + 1) by omega]
  · unfold sha_Hash_Sum_b0
    dsimp only
    rw [hc _ hz, deT (by simp only [zs]; omega), Bool.not_true, cond_false]

theorem rpad_ok {N : Nat} {rest : List Int} (hr : rest.length < 100000) (hN : 64 < N) :
    granaryref05_Hash_Sum_l0 N (rest ++ [128]) = some (rest ++ 128 :: List.replicate (zs rest.length) 0) := by
  have hz : zs rest.length < 64 := Nat.mod_lt _ (by decide)
  have hc : ∀ i : Nat, i < 64 → Int.tmod (wrapF .i64 ((((rest ++ 128 :: List.replicate i (0 : Int)).length : Nat) : Int) + 8)) 64 = (((rest.length + (1 + i) + 8) % 64 : Nat) : Int) := fun i hi => by
    have : (((rest ++ 128 :: List.replicate i (0 : Int)).length : Nat) : Int) + 8 = ((rest.length + (1 + i) + 8 : Nat) : Int) := by simp; omega
    rw [this, wrapF_i64 (by omega) (by omega)]
    exact tmod_nat _ 64
  refine loop_iter (b := granaryref05_Hash_Sum_b0 N) (r := rest ++ 128 :: List.replicate (zs rest.length) 0) (fun i => rest ++ 128 :: List.replicate i 0) (zs rest.length) (fun i hi nx => ?_) (fun nx => ?_) N (by omega)
  · unfold granaryref05_Hash_Sum_b0
    dsimp only
    rw [hc i (by omega), deF (by simp only [zs] at hi; omega), Bool.not_false, cond_true]
    have e1 : List.take 1 (List.drop 0 [(0 : Int)]) = [0] := rfl
    have e2 : (rest ++ 128 :: List.replicate i (0 : Int)) ++ [0] = rest ++ 128 :: List.replicate (i + 1) 0 := by
      rw [List.append_assoc, List.cons_append, List.replicate_succ']
    rw [e1, e2, deT (p := 1 ≤ [(0 : Int)].length) (by decide), fits1 (by simp; omega)]
    rfl
  · unfold granaryref05_Hash_Sum_b0
    dsimp only
    rw [hc _ hz, deT (by simp only [zs]; omega), Bool.not_true, cond_false]

/-- A state in bytes. -/
def wbytes (s : List Int) : List Int := s.flatMap fun x => be 4 x.toNat

theorem wbytes_length : ∀ (s : List Int), (wbytes s).length = 4 * s.length
  | [] => rfl
  | a :: s => by
    show (be 4 a.toNat ++ wbytes s).length = _
    rw [List.length_append, wbytes_length s, be_length, List.length_cons]; omega

theorem wbytes_take (s : List Int) (i : Nat) (h : i < s.length) : wbytes (s.take (i + 1)) = wbytes (s.take i) ++ be 4 (s.getD i 0).toNat := by
  have : s.take (i + 1) = s.take i ++ [s.getD i 0] := by
    rw [List.take_add_one, List.getD, List.getElem?_eq_getElem h]; rfl
  rw [this]
  simp [wbytes]

theorem words_ok {N : Nat} {s : List Int} (hs : s.length = 8) (hb : Bd s) (hN : 8 < N) : sha_words N s = some (wbytes s) := by
  have key : sha_words_l0 N (s, 0, []) = some (wbytes s) := by
    refine loop_iter (b := sha_words_b0 N) (r := wbytes s) (fun i => (s, (i : Int), wbytes (s.take i))) 8 (fun i hi nx => ?_) (fun nx => ?_) N hN
    · unfold sha_words_b0
      dsimp only
      have hx : s.getD i 0 ∈ s := by rw [List.getD, List.getElem?_eq_getElem (by omega)]; exact List.getElem_mem _
      have h1 := hb _ hx
      have e1 : wrapF .u64 (s.getD i 0) = (((s.getD i 0).toNat : Nat) : Int) := by rw [wrapF_u64 (by omega) (by omega)]; omega
      have hl := wbytes_length (s.take i)
      rw [List.length_take] at hl
      rw [deT (p := (i : Int) < 8) (by omega), cond_true, deT (p := (0 : Int) ≤ (i : Int)) (by omega), Bool.and_self, cond_true, Int.toNat_natCast, show (EK.dflt (.int .u32)) = (0 : Int) from rfl, e1]
      have h4 := put2_ok (N := N) (n := (s.getD i 0).toNat) (size := 4) (b := wbytes (s.take i)) (by omega) (by omega)
      rw [show ((4 : Nat) : Int) = 4 from rfl] at h4
      rw [h4, Option.bind_some, ← wbytes_take s i (by omega), wrapF_i64 (by omega) (by omega)]
      rfl
    · unfold sha_words_b0
      dsimp only
      rw [deF (by decide), cond_false, List.take_of_length_le (by omega)]
  unfold sha_words
  rw [key]; rfl

theorem shr32 {n : Nat} {k : Nat} (hk : k ≤ 32) : shrF .u32 (n : Int) (k : Int) = ((n / 2 ^ k : Nat) : Int) := shrF_nat .u32 (a := n) (n := k) hk

theorem rwords_ok {N : Nat} {s : List Int} (hs : s.length = 8) (hb : Bd s) (hN : 8 < N) : granaryref05_Words N s = some (wbytes s) := by
  have key : granaryref05_Words_l0 N (0, s, []) = some (s, wbytes s) := by
    refine loop_iter (b := granaryref05_Words_b0 N) (r := (s, wbytes s)) (fun i => ((i : Int), s, wbytes (s.take i))) 8 (fun i hi nx => ?_) (fun nx => ?_) N hN
    · unfold granaryref05_Words_b0
      dsimp only
      have hx : s.getD i 0 ∈ s := by rw [List.getD, List.getElem?_eq_getElem (by omega)]; exact List.getElem_mem _
      have h1 := hb _ hx
      obtain ⟨m, hm⟩ : ∃ m : Nat, s.getD i 0 = (m : Int) := ⟨(s.getD i 0).toNat, by omega⟩
      have hl := wbytes_length (s.take i)
      rw [List.length_take] at hl
      have e24 : shrF .u32 (m : Int) 24 = ((m / 2 ^ 24 : Nat) : Int) := shr32 (k := 24) (by omega)
      have e16 : shrF .u32 (m : Int) 16 = ((m / 2 ^ 16 : Nat) : Int) := shr32 (k := 16) (by omega)
      have e8 : shrF .u32 (m : Int) 8 = ((m / 2 ^ 8 : Nat) : Int) := shr32 (k := 8) (by omega)
      have e4 : [wrapF .u8 ((m / 2 ^ 24 : Nat) : Int), wrapF .u8 ((m / 2 ^ 16 : Nat) : Int), wrapF .u8 ((m / 2 ^ 8 : Nat) : Int), wrapF .u8 (m : Int)] = be 4 m := by
        rw [be4, low8, low8, low8, low8]
        simp only [Nat.div_div_eq_div_mul]
      rw [deT (p := (i : Int) < 8) (by omega), cond_true, deT (p := (0 : Int) ≤ (i : Int)) (by omega), Bool.and_self]
      simp only [cond_true, Int.toNat_natCast]
      rw [deT (p := i < s.length) (by omega), show (EK.dflt (.int .u32)) = (0 : Int) from rfl, hm, e24, e16, e8]
      simp only [cond_true, e4]
      rw [deT (p := 4 ≤ (be 4 m).length) (by simp), List.drop_zero, show List.take 4 (be 4 m) = be 4 m from List.take_of_length_le (by simp), be_length, fits1 (by omega), Bool.and_self, cond_true, wrapF_i64 (by omega) (by omega), wbytes_take s i (by omega), hm]
      rfl
    · unfold granaryref05_Words_b0
      dsimp only
      rw [deF (by decide), cond_false, List.take_of_length_le (by omega)]
  unfold granaryref05_Words
  rw [key]; rfl

theorem eight_ok (n : Nat) : granaryref05_eight (n : Int) = some (0, 8, be 8 n) := by
  unfold granaryref05_eight
  have e : ∀ k : Nat, k ≤ 64 → shrF .u64 (n : Int) (k : Int) = ((n / 2 ^ k : Nat) : Int) := fun k hk => shrF_nat .u64 (a := n) (n := k) hk
  have e1 := e 56 (by omega); have e2 := e 48 (by omega); have e3 := e 40 (by omega); have e4 := e 32 (by omega); have e5 := e 24 (by omega); have e6 := e 16 (by omega); have e7 := e 8 (by omega)
  simp only [show ((56 : Nat) : Int) = 56 from rfl, show ((48 : Nat) : Int) = 48 from rfl, show ((40 : Nat) : Int) = 40 from rfl, show ((32 : Nat) : Int) = 32 from rfl, show ((24 : Nat) : Int) = 24 from rfl, show ((16 : Nat) : Int) = 16 from rfl, show ((8 : Nat) : Int) = 8 from rfl] at e1 e2 e3 e4 e5 e6 e7
  rw [e1, e2, e3, e4, e5, e6, e7]
  simp only [low8, be, List.nil_append, List.cons_append, Nat.div_div_eq_div_mul]

/-- What is laid behind the bytes. -/
def tail (r n : Nat) : List Int := (128 :: List.replicate (zs r) 0) ++ be 8 (8 * n % 18446744073709551616)
noncomputable def sumS (s : List Int) (n : Nat) (rest : List Int) : List Int := wbytes (absorb ((rest ++ tail rest.length n).length / 64) s (rest ++ tail rest.length n))

theorem tail_length (r n : Nat) : (tail r n).length = 9 + zs r := by simp [tail]; omega

theorem wrap8 (n : Nat) : wrapF .u64 ((8 : Int) * (n : Int)) = ((8 * n % 18446744073709551616 : Nat) : Int) := by simp only [wrapF]; omega

theorem sum_ok {N : Nat} {s rest : List Int} {n : Nat} (hs : s.length = 8) (hb : Bd s) (hr : rest.length < 100000) (hN : 3000 < N) : sha_Hash_Sum N (s, (n : Int), rest) = some (sumS s n rest, s, (n : Int), rest) := by
  unfold sha_Hash_Sum
  dsimp only
  have hz : zs rest.length < 64 := Nat.mod_lt _ (by decide)
  have hp := putw_ok (N := N) (off := 0) (len := 1 + zs rest.length) (n := 8 * n % 18446744073709551616) (size := 8) (L := 128 :: List.replicate (zs rest.length) 0) (by simp; omega) (by omega) (by omega)
  rw [show ((8 : Nat) : Int) = 8 from rfl, List.drop_zero] at hp
  have ht := tail_length rest.length n
  rw [clone_ok (by omega), Option.bind_some, pad_ok hr (by omega), Option.bind_some]
  dsimp only
  rw [wrap8, hp, Option.bind_some]
  show (Option.bind (sha_Hash_Write_v1 N (tail rest.length n, s, 0, rest)) _) = _
  rw [write1_ok (by omega) hs (by omega) (by rw [List.length_append]; omega), Option.bind_some]
  dsimp only
  rw [words_ok (absorb_length _ _ _ hs) (absorb_bd _ _ _ hb) (by omega), Option.bind_some]
  have hl : (wbytes (absorb ((rest ++ tail rest.length n).length / 64) s (rest ++ tail rest.length n))).length = 32 := by rw [wbytes_length, absorb_length _ _ _ hs]
  rw [hl, deT (by simp), cond_true]
  simp only [Nat.min_self, List.take_zero, List.nil_append, Nat.zero_add]
  rw [List.take_of_length_le (by omega), List.drop_of_length_le (by simp), List.append_nil]
  rfl

theorem rl2_ok {N : Nat} (hN : 64 < N) : ∀ (k f off : Nat) (s L : List Int), off + 64 * k = L.length → L.length < 1000000 → s.length = 8 → k < f →
    loopF (granaryref05_Hash_Sum_b2 N) f (off, 64 * k, L, s) = some (L, absorb k s (L.drop off)) := by
  intro k
  induction k with
  | zero =>
    intro f off s L h1 h2 hs hf
    obtain ⟨f, rfl⟩ : ∃ g, f = g + 1 := ⟨f - 1, by omega⟩
    rfl
  | succ k ih =>
    intro f off s L h1 h2 hs hf
    obtain ⟨f, rfl⟩ : ∃ g, f = g + 1 := ⟨f - 1, by omega⟩
    show granaryref05_Hash_Sum_b2 N (loopF (granaryref05_Hash_Sum_b2 N) f) _ = _
    generalize hnx : loopF (granaryref05_Hash_Sum_b2 N) f = nx
    unfold granaryref05_Hash_Sum_b2
    dsimp only
    have ht : List.take (64 * (k + 1)) (List.drop off L) = L.drop off := List.take_of_length_le (by simp; omega)
    rw [deT (p := (0 : Int) < ((64 * (k + 1) : Nat) : Int)) (by omega), cond_true, deT (p := off + 64 * (k + 1) ≤ L.length) (by omega), cond_true, cond_true, ht, piece_ok (by simp; omega) (by simp; omega) hs hN, Option.bind_some,
      deT (p := (64 : Int) ≤ ((64 * (k + 1) : Nat) : Int)) (by omega), deT (p := ((64 * (k + 1) : Nat) : Int) ≤ ((64 * (k + 1) : Nat) : Int)) (by omega), Bool.and_self, cond_true, ← hnx, show 64 * (k + 1) - 64 = 64 * k by omega,
      ih f (64 + off) _ L (by omega) h2 (S_length _ _) (by omega), absorb, List.drop_drop, Nat.add_comm off 64]

theorem rl4c_ok {N : Nat} {w : List Int} (hw : w.length = 32) (hN : 32 < N) : granaryref05_Hash_Sum_l4 N (0, w, List.replicate 32 0) = some (w, w) := by
  have hl : ∀ i, i ≤ 32 → (w.take i ++ List.replicate (32 - i) (0 : Int)).length = 32 := fun i hi => by simp; omega
  have h := loop_iter (b := granaryref05_Hash_Sum_b4 N) (r := (w, w)) (fun i => ((i : Int), w, w.take i ++ List.replicate (32 - i) 0)) 32 (fun i hi nx => ?_) (fun nx => ?_) N hN
  · show loopF (granaryref05_Hash_Sum_b4 N) N _ = _
    simpa using h
  · unfold granaryref05_Hash_Sum_b4
    dsimp only
    rw [deT (p := (i : Int) < 32) (by omega), cond_true, deT (p := (0 : Int) ≤ (i : Int)) (by omega), deT (p := (i : Int) < ((w.length : Nat) : Int)) (by omega), Bool.and_self, cond_true, Int.toNat_natCast, deT (p := i < w.length) (by omega), cond_true, cond_true, deT (by rw [hl i (by omega)]; exact hi), cond_true,
      wrapF_i64 (by omega) (by omega)]
    have : (w.take i ++ List.replicate (32 - i) (0 : Int)).set i (w.getD i 0) = w.take (i + 1) ++ List.replicate (32 - (i + 1)) 0 := by
      have t : w.take (i + 1) = w.take i ++ [w.getD i 0] := by
        rw [List.take_add_one, List.getD, List.getElem?_eq_getElem (by omega)]; rfl
      rw [t, List.set_append_right _ _ (by simp; omega), List.length_take, Nat.min_eq_left (by omega), Nat.sub_self, show 32 - i = (32 - (i + 1)) + 1 by omega, List.replicate_succ, List.set_cons_zero]
      simp
    rw [show (EK.dflt (.int .u8)) = (0 : Int) from rfl, this]
    rfl
  · unfold granaryref05_Hash_Sum_b4
    dsimp only
    rw [deF (by decide), cond_false, List.take_of_length_le (by omega)]
    simp

theorem rsum_ok {N : Nat} {s rest : List Int} {n : Nat} (hs : s.length = 8) (hb : Bd s) (hr : rest.length < 100000) (hN : 3000 < N) : granaryref05_Hash_Sum N (s, (n : Int), rest) = some (sumS s n rest, s, (n : Int), rest) := by
  unfold granaryref05_Hash_Sum
  dsimp only
  have hz : zs rest.length < 64 := Nat.mod_lt _ (by decide)
  have ht := tail_length rest.length n
  have e1 : List.take 1 (List.drop 0 [(128 : Int)]) = [128] := rfl
  rw [fits1 (by omega), cond_true, e1, deT (p := 1 ≤ [(128 : Int)].length) (by decide), fits1 (by simp; omega), Bool.and_self, cond_true, rpad_ok hr (by omega), Option.bind_some, wrap8, eight_ok, Option.bind_some]
  dsimp only
  have e2 : List.take 8 (List.drop 0 (be 8 (8 * n % 18446744073709551616))) = be 8 (8 * n % 18446744073709551616) := by rw [List.drop_zero]; exact List.take_of_length_le (by simp)
  have e3 : (rest ++ 128 :: List.replicate (zs rest.length) 0) ++ be 8 (8 * n % 18446744073709551616) = rest ++ tail rest.length n := by simp [tail]
  rw [e2, e3, be_length, deT (p := 0 + 8 ≤ 8) (by decide), fits1 (by simp; omega), Bool.and_self, cond_true]
  have hq : (rest ++ tail rest.length n).length = 64 * ((rest ++ tail rest.length n).length / 64) := by
    rw [List.length_append, ht]
    have : (rest.length + (9 + zs rest.length)) % 64 = 0 := by simp only [zs]; omega
    omega
  have hq2 : (rest ++ tail rest.length n).length < 100100 := by rw [List.length_append, ht]; omega
  have h2 := rl2_ok (N := N) (by omega) ((rest ++ tail rest.length n).length / 64) N 0 s (rest ++ tail rest.length n) (by omega) (by omega) hs (by omega)
  rw [← hq, List.drop_zero] at h2
  unfold granaryref05_Hash_Sum_l2
  rw [h2, Option.bind_some]
  dsimp only
  rw [rwords_ok (absorb_length _ _ _ hs) (absorb_bd _ _ _ hb) (by omega), Option.bind_some, show (EK.dflt (.int .u8)) = (0 : Int) from rfl, rl4c_ok (by rw [wbytes_length, absorb_length _ _ _ hs]) (by omega)]
  rfl

noncomputable def init : List Int := (sha_beginning ()).getD []
theorem init_eq : sha_New () = some init := rfl
theorem rinit_eq : granaryref05_New () = some init := rfl
theorem init_length : init.length = 8 := rfl
theorem init_bd : Bd init := by
  intro x hx
  have : init = [1779033703, 3144134277, 1013904242, 2773480762, 1359893119, 2600822924, 528734635, 1541459225] := rfl
  rw [this] at hx
  simp only [List.mem_cons, List.not_mem_nil, or_false] at hx
  omega

/-- The digest. -/
noncomputable def digest (p : List Int) : List Int := sumS (absorb (p.length / 64) init p) p.length (p.drop (64 * (p.length / 64)))

theorem digest_length (p : List Int) : (digest p).length = 32 := by
  unfold digest sumS
  rw [wbytes_length, absorb_length _ _ _ (absorb_length _ _ _ init_length)]
theorem wbytes_bd (s : List Int) : ∀ x ∈ wbytes s, 0 ≤ x ∧ x < 256 := by
  intro x hx
  simp only [wbytes, List.mem_flatMap] at hx
  obtain ⟨y, _, hx⟩ := hx
  exact be_bytes 4 _ x hx
theorem digest_bd (p : List Int) : ∀ x ∈ digest p, 0 ≤ x ∧ x < 256 := wbytes_bd _

theorem len64 {n : Nat} (h : n < 1000000) : wrapF .u64 ((0 : Int) + wrapF .u64 ((n : Nat) : Int)) = ((n : Nat) : Int) := by
  rw [wrapF_u64 (n := ((n : Nat) : Int)) (by omega) (by omega), wrapF_u64 (by omega) (by omega)]; omega

theorem Sum_ok {N : Nat} {p : List Int} (hp : p.length < 100000) (hN : 3000 < N) : sha_Sum N p = some (digest p) := by
  unfold sha_Sum
  rw [init_eq, Option.bind_some, write0_ok (by omega) init_length (by omega) (by omega), Option.bind_some]
  dsimp only
  rw [len64 (by omega), sum_ok (absorb_length _ _ _ init_length) (absorb_bd _ _ _ init_bd) (by simp; omega) hN]
  rfl

theorem rSum_ok {N : Nat} {p : List Int} (hp : p.length < 100000) (hN : 3000 < N) : granaryref05_Sum N p = some (digest p) := by
  unfold granaryref05_Sum
  rw [rinit_eq, Option.bind_some, rwrite_ok (by omega) init_length (by omega) (by omega), Option.bind_some]
  dsimp only
  rw [len64 (by omega), rsum_ok (absorb_length _ _ _ init_length) (absorb_bd _ _ _ init_bd) (by simp; omega) hN]
  rfl

end Sha
end Go.Rf.W
