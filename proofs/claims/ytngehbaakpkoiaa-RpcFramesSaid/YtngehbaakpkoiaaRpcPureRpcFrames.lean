/-
  RpcFrames, plain: every record in every fragments.
-/
import Derived.Test.YtngehbaakpkoiaaRpcFRpcFrames
import Derived.Test.YtngehbaakpkoiaaPlRpcOct
import Derived.Test.YtngehbaakpkoiaaPlRpc
import Derived.Test.YtngehbaakpkoiaaRfC
set_option linter.unusedVariables false
set_option maxRecDepth 10000
namespace Go.Rf.W.Pure
open Go Go.Rf Go.Rf.W

/-- A record cut into fragments: what is left, what is laid. -/
def frag : List Int → Nat → List Int → List Int → List Int × List Int
  | [], _, r, out => (r, out)
  | v :: s, f, r, out => if v ≤ 0 ∨ (r.length : Int) ≤ v ∨ 32 ≤ f then frag s f r out else frag s (f + 1) (r.drop v.toNat) (out ++ be 4 v.toNat ++ r.take v.toNat)

theorem frag_end : ∀ (s : List Int) (f : Nat) (r out : List Int), 32 ≤ f → frag s f r out = (r, out)
  | [], _, _, _, _ => rfl
  | v :: s, f, r, out, h => by
    unfold frag
    rw [if_pos (.inr (.inr h))]
    exact frag_end s f r out h

theorem frag_len : ∀ (s : List Int) (f : Nat) (r out : List Int), (frag s f r out).1.length + (frag s f r out).2.length ≤ r.length + out.length + 4 * s.length ∧ (frag s f r out).1.length ≤ r.length
  | [], _, r, out => by simp [frag]
  | v :: s, f, r, out => by
    unfold frag
    split
    · have := frag_len s f r out
      rw [List.length_cons]; omega
    · have := frag_len s (f + 1) (r.drop v.toNat) (out ++ be 4 v.toNat ++ r.take v.toNat)
      simp only [List.length_drop, List.length_append, be_length, List.length_take, List.length_cons] at this ⊢
      omega

theorem dropT (l : List Int) (h : Nat) : List.take (l.length - h) (List.drop h l) = l.drop h := List.take_of_length_le (by simp)

theorem frame_loop {N : Nat} (hN : 100 < N) (sizes : List Int) (hs : sizes.length ≤ 60) : ∀ (d i f : Nat) (fr : Nat) (r out : List Int), i + d = sizes.length → d < f → fr ≤ 40 + i → r.length + out.length ≤ 20000 + 4 * i →
    loopF (rpc_Frame_b0 N) f (r, (fr : Int), sizes, ((sizes.length : Nat) : Int), (i : Int), out) = some (frag (sizes.drop i) fr r out) := by
  intro d
  induction d with
  | zero =>
    intro i f fr r out hi hf hfr hl
    obtain ⟨f, rfl⟩ : ∃ g, f = g + 1 := ⟨f - 1, by omega⟩
    show rpc_Frame_b0 N _ _ = _
    unfold rpc_Frame_b0
    dsimp only
    rw [deF (by omega), cond_false, List.drop_of_length_le (by omega)]
    rfl
  | succ d ih =>
    intro i f fr r out hi hf hfr hl
    obtain ⟨f, rfl⟩ : ∃ g, f = g + 1 := ⟨f - 1, by omega⟩
    have hlt : i < sizes.length := by omega
    have hg : List.getD sizes i (EK.dflt (.int .i64)) = sizes[i] := by rw [List.getD, List.getElem?_eq_getElem hlt]; rfl
    show rpc_Frame_b0 N (loopF (rpc_Frame_b0 N) f) _ = _
    have ih := fun fr r out => ih (i + 1) f fr r out (by omega) (by omega)
    generalize loopF (rpc_Frame_b0 N) f = nx at ih
    rw [List.drop_eq_getElem_cons hlt]
    unfold rpc_Frame_b0 frag
    dsimp only
    rw [deT (p := (i : Int) < ((sizes.length : Nat) : Int)) (by omega), cond_true, deT (p := (0 : Int) ≤ (i : Int)) (by omega), Bool.and_self, cond_true, Int.toNat_natCast, hg, wrapF_i64 (n := (i : Int) + 1) (by omega) (by omega), show (i : Int) + 1 = ((i + 1 : Nat) : Int) by omega]
    generalize sizes[i] = v
    by_cases hsk : v ≤ 0 ∨ (r.length : Int) ≤ v ∨ 32 ≤ fr
    · have hr : (cond (decide (v ≤ (0 : Int))) (some true) (cond (decide (((r.length : Nat) : Int) ≤ v)) (some true) (some (decide ((32 : Int) ≤ (fr : Int)))))) = some true := by
        by_cases a1 : v ≤ 0
        · rw [deT a1]; rfl
        rw [deF a1, cond_false]
        by_cases a2 : (r.length : Int) ≤ v
        · rw [deT a2]; rfl
        rw [deF a2, cond_false, deT (by omega)]
      rw [hr, if_pos hsk, Option.bind_some, cond_true, Option.bind_some]
      exact ih fr r out (by omega) (by omega)
    · have hr : (cond (decide (v ≤ (0 : Int))) (some true) (cond (decide (((r.length : Nat) : Int) ≤ v)) (some true) (some (decide ((32 : Int) ≤ (fr : Int)))))) = some false := by
        rw [deF (by omega), cond_false, deF (by omega), cond_false, deF (by omega)]
      obtain ⟨m, rfl⟩ : ∃ m : Nat, v = (m : Int) := ⟨v.toNat, by omega⟩
      have hp := put1_ok (N := N) (n := m) (size := 4) (b := out) (by omega) (by omega)
      rw [show ((4 : Nat) : Int) = 4 from rfl] at hp
      rw [hr, if_neg hsk, Option.bind_some, cond_false, wrapF_u64 (n := (m : Int)) (by omega) (by omega), hp, Option.bind_some, deT (p := (0 : Int) ≤ (m : Int)) (by omega), deT (p := (m : Int) ≤ ((r.length : Nat) : Int)) (by omega), deT (p := ((r.length : Nat) : Int) ≤ ((r.length : Nat) : Int)) (by omega)]
      simp only [Bool.and_self, cond_true, Int.toNat_natCast, List.drop_zero]
      rw [fits1 (by simp; omega), cond_true, dropT, wrapF_i64 (n := (fr : Int) + 1) (by omega) (by omega), show (fr : Int) + 1 = ((fr + 1 : Nat) : Int) by omega]
      exact ih (fr + 1) _ _ (by omega) (by simp; omega)

theorem shr64i {n k : Nat} (hk : k ≤ 64) : shrF .i64 (n : Int) (k : Int) = ((n / 2 ^ k : Nat) : Int) := shrF_nat .i64 (a := n) (n := k) hk

theorem head_bytes (n : Nat) : [wrapF .u8 (shrF .i64 (n : Int) 24), wrapF .u8 (shrF .i64 (n : Int) 16), wrapF .u8 (shrF .i64 (n : Int) 8), wrapF .u8 (n : Int)] = be 4 n := by
  have e24 : shrF .i64 (n : Int) 24 = ((n / 2 ^ 24 : Nat) : Int) := shr64i (k := 24) (by omega)
  have e16 : shrF .i64 (n : Int) 16 = ((n / 2 ^ 16 : Nat) : Int) := shr64i (k := 16) (by omega)
  have e8 : shrF .i64 (n : Int) 8 = ((n / 2 ^ 8 : Nat) : Int) := shr64i (k := 8) (by omega)
  rw [e24, e16, e8, be4, low8, low8, low8, low8]
  simp only [Nat.div_div_eq_div_mul]

theorem head_ok (n : Nat) : granaryref21_head ((n : Int), false) = some (0, 4, be 4 n) := by
  unfold granaryref21_head
  dsimp only
  rw [head_bytes]
  rfl

theorem head_last {n : Nat} (hn : n < 65536) : granaryref21_head ((n : Int), true) = some (0, 4, be 4 (2147483648 + n)) := by
  unfold granaryref21_head
  dsimp only
  rw [head_bytes]
  have e : (be 4 n).set 0 (orF .u8 ((be 4 n).getD 0 0) 128) = be 4 (2147483648 + n) := by
    rw [be4, be4]
    have z1 : n / 256 / 256 / 256 % 256 = 0 := by omega
    have z2 : (2147483648 + n) / 256 / 256 / 256 % 256 = 128 := by omega
    have z3 : (2147483648 + n) / 256 / 256 % 256 = n / 256 / 256 % 256 := by omega
    have z4 : (2147483648 + n) / 256 % 256 = n / 256 % 256 := by omega
    have z5 : (2147483648 + n) % 256 = n % 256 := by omega
    rw [z1, z2, z3, z4, z5]
    rfl
  have h0 : decide (0 < (be 4 n).length) = true := by simp
  rw [h0]
  show some (0, 4, (be 4 n).set 0 (orF .u8 ((be 4 n).getD 0 0) 128)) = _
  rw [e]

theorem rframe_loop {N : Nat} (hN : 100 < N) (sizes : List Int) (hs : sizes.length ≤ 60) : ∀ (d i f : Nat) (fr : Nat) (r out : List Int), i + d = sizes.length → d < f → fr ≤ 32 → r.length + out.length ≤ 20000 + 4 * i →
    loopF (granaryref21_Frame_b0 N) f (r, sizes, (fr : Int), (i : Int), out) = some (frag (sizes.drop i) fr r out) := by
  intro d
  induction d with
  | zero =>
    intro i f fr r out hi hf hfr hl
    obtain ⟨f, rfl⟩ : ∃ g, f = g + 1 := ⟨f - 1, by omega⟩
    show granaryref21_Frame_b0 N _ _ = _
    unfold granaryref21_Frame_b0
    dsimp only
    rw [deF (by omega), cond_false, Option.bind_some, cond_false, List.drop_of_length_le (by omega)]
    rfl
  | succ d ih =>
    intro i f fr r out hi hf hfr hl
    obtain ⟨f, rfl⟩ : ∃ g, f = g + 1 := ⟨f - 1, by omega⟩
    have hlt : i < sizes.length := by omega
    have hg : List.getD sizes i (EK.dflt (.int .i64)) = sizes[i] := by rw [List.getD, List.getElem?_eq_getElem hlt]; rfl
    show granaryref21_Frame_b0 N (loopF (granaryref21_Frame_b0 N) f) _ = _
    have ih := fun fr r out => ih (i + 1) f fr r out (by omega) (by omega)
    generalize loopF (granaryref21_Frame_b0 N) f = nx at ih
    by_cases h32 : 32 ≤ fr
    · rw [frag_end _ _ _ _ h32]
      unfold granaryref21_Frame_b0
      dsimp only
      rw [deT (p := (i : Int) < ((sizes.length : Nat) : Int)) (by omega), cond_true, deF (p := (fr : Int) < 32) (by omega), Option.bind_some, cond_false]
    rw [List.drop_eq_getElem_cons hlt]
    unfold frag
    have hI : (i : Int) < ((sizes.length : Nat) : Int) := by omega
    have h32' : (fr : Int) < 32 := by omega
    have t1 : (0 : Int) ≤ (i : Int) := by omega
    have eI : wrapF .i64 ((i : Int) + 1) = ((i + 1 : Nat) : Int) := by rw [wrapF_i64 (by omega) (by omega)]; omega
    have eF : wrapF .i64 ((fr : Int) + 1) = ((fr + 1 : Nat) : Int) := by rw [wrapF_i64 (by omega) (by omega)]; omega
    by_cases hsk : sizes[i] ≤ 0 ∨ (r.length : Int) ≤ sizes[i] ∨ 32 ≤ fr
    · rw [if_pos hsk]
      by_cases a1 : (0 : Int) < sizes[i]
      · have a2 : ¬ sizes[i] < ((r.length : Nat) : Int) := by omega
        simp only [granaryref21_Frame_b0, hI, h32', t1, decide_true, Bool.and_self, cond_true, Option.bind_some, Int.toNat_natCast, hg, eI, a1, a2, decide_false, cond_false]
        exact ih fr r out (by omega) (by omega)
      · simp only [granaryref21_Frame_b0, hI, h32', t1, decide_true, Bool.and_self, cond_true, Option.bind_some, Int.toNat_natCast, hg, eI, a1, decide_false, cond_false]
        exact ih fr r out (by omega) (by omega)
    · rw [if_neg hsk]
      obtain ⟨m, hm⟩ : ∃ m : Nat, sizes[i] = (m : Int) := ⟨sizes[i].toNat, by omega⟩
      have a1 : (0 : Int) < (m : Int) := by omega
      have a2 : (m : Int) < ((r.length : Nat) : Int) := by omega
      have a3 : (0 : Int) ≤ (m : Int) := by omega
      have a4 : (m : Int) ≤ ((r.length : Nat) : Int) := by omega
      have a5 : ((r.length : Nat) : Int) ≤ ((r.length : Nat) : Int) := by omega
      have e4 : List.take 4 (List.drop 0 (be 4 m)) = be 4 m := by rw [List.drop_zero]; exact List.take_of_length_le (by simp)
      have f1 : fits 1 (out.length + 4) = true := fits1 (by omega)
      have f2 : fits 1 ((out ++ be 4 m).length + (List.take m r).length) = true := fits1 (by simp; omega)
      have a6 : 0 + 4 ≤ 4 := by omega
      simp only [granaryref21_Frame_b0, hI, h32', t1, decide_true, Bool.and_self, cond_true, Option.bind_some, Int.toNat_natCast, hg, eI, eF, hm, a1, a2, a3, a4, a5, head_ok, e4, be_length, a6, f1, f2, dropT]
      rw [List.drop_zero, f2, cond_true, Option.bind_some]
      exact ih (fr + 1) _ _ (by omega) (by simp; omega)

/-- A record in fragments. -/
def frames (p sizes : List Int) : List Int := (frag sizes 1 p []).2 ++ be 4 (2147483648 + (frag sizes 1 p []).1.length) ++ (frag sizes 1 p []).1

theorem frame_ok {N : Nat} (hN : 100 < N) {p sizes : List Int} (hp : p.length ≤ 20000) (hs : sizes.length ≤ 60) : rpc_Frame N (p, sizes) = some (frames p sizes) := by
  have h := frame_loop hN sizes hs sizes.length 0 N 1 p [] (by omega) (by omega) (by omega) (by simp; omega)
  have hl := frag_len sizes 1 p []
  rw [List.drop_zero] at h
  unfold rpc_Frame frames
  have h' : rpc_Frame_l0 N (p, (1 : Int), sizes, ((sizes.length : Nat) : Int), (0 : Int), []) = some (frag sizes 1 p []) := h
  dsimp only
  rw [h', Option.bind_some]
  generalize frag sizes 1 p [] = q at hl
  obtain ⟨r, out⟩ := q
  dsimp only at hl ⊢
  simp only [List.length_nil] at hl
  have e1 : wrapF .u32 ((r.length : Nat) : Int) = ((r.length : Nat) : Int) := wrapF_u32 (by omega) (by omega)
  have e2 : orF .u32 2147483648 ((r.length : Nat) : Int) = ((2147483648 + r.length : Nat) : Int) := by
    have := orF_nat .u32 (a := 2147483648) (b := r.length) (by decide) (by rw [two_pow_topA]; show r.length < 4294967296; omega)
    have e := Nat.two_pow_add_eq_or_of_lt (i := 31) (b := r.length) (by show r.length < 2147483648; omega) 1
    rw [show ((2147483648 : Nat) : Int) = 2147483648 from rfl] at this
    rw [this]
    have e' : 2147483648 ||| r.length = 2147483648 + r.length := by simpa using e.symm
    rw [e']
  have hp := put1_ok (N := N) (n := 2147483648 + r.length) (size := 4) (b := out) (by omega) (by omega)
  rw [show ((4 : Nat) : Int) = 4 from rfl] at hp
  rw [e1, e2, wrapF_u64 (by omega) (by omega), hp, Option.bind_some, fits1 (by simp; omega), cond_true]

theorem rframe_ok {N : Nat} (hN : 100 < N) {p sizes : List Int} (hp : p.length ≤ 20000) (hs : sizes.length ≤ 60) : granaryref21_Frame N (p, sizes) = some (frames p sizes) := by
  have h := rframe_loop hN sizes hs sizes.length 0 N 1 p [] (by omega) (by omega) (by omega) (by simp; omega)
  have hl := frag_len sizes 1 p []
  rw [List.drop_zero] at h
  unfold granaryref21_Frame frames
  have h' : granaryref21_Frame_l0 N (p, sizes, (1 : Int), (0 : Int), []) = some (frag sizes 1 p []) := h
  dsimp only
  rw [h', Option.bind_some]
  generalize frag sizes 1 p [] = q at hl
  obtain ⟨r, out⟩ := q
  dsimp only at hl ⊢
  simp only [List.length_nil] at hl
  have e4 : ∀ m, List.take 4 (List.drop 0 (be 4 m)) = be 4 m := fun m => by rw [List.drop_zero]; exact List.take_of_length_le (by simp)
  rw [head_last (by omega), Option.bind_some]
  dsimp only
  rw [e4, deT (p := 0 + 4 ≤ (be 4 (2147483648 + r.length)).length) (by simp), fits1 (by simp; omega), Bool.and_self, cond_true, fits1 (by simp; omega), cond_true]

theorem rpcFrames (x : EKs [(.sl (.int .u8)), (.sl (.int .i64))]) (hw : wfs [(.sl (.int .u8)), (.sl (.int .i64))] x) : ∃ N, granarylaw21_RpcFrames N (x.1, x.2) = some true := by
  obtain ⟨p, sizes⟩ := x
  refine ⟨30000, ?_⟩
  unfold granarylaw21_RpcFrames
  dsimp only
  by_cases c0 : 20000 < List.length p
  · rw [deT (p := (20000 : Int) < ((List.length p : Nat) : Int)) (by omega), cond_true, Option.bind_some, cond_true, rpc_live]; rfl
  rw [deF (p := (20000 : Int) < ((List.length p : Nat) : Int)) (by omega), cond_false, Option.bind_some]
  by_cases c1 : 60 < List.length sizes
  · rw [deT (p := (60 : Int) < ((List.length sizes : Nat) : Int)) (by omega), cond_true, rpc_live]; rfl
  have hf8 : fits 8 (List.length sizes) = true := by simp [fits]; omega
  rw [deF (p := (60 : Int) < ((List.length sizes : Nat) : Int)) (by omega), cond_false, fits1 (by omega), cond_true, hf8, cond_true, frame_ok (by omega) (by omega) (by omega), Option.bind_some, rframe_ok (by omega) (by omega) (by omega), Option.bind_some, deS, cond_true, deS, cond_true, rpc_live]
  rfl

end Go.Rf.W.Pure
