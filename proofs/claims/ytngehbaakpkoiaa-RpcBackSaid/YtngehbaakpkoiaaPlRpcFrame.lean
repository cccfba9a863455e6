/-
  Package rpc: a record in fragments, and what a framer makes of it.
-/
import Derived.Test.YtngehbaakpkoiaaPlRpcOct
import Derived.Test.YtngehbaakpkoiaaPlRpcSeg2
set_option linter.unusedVariables false
set_option linter.unusedSimpArgs false
set_option maxRecDepth 10000
namespace Go.Rf.W.Pure
open Go Go.Rf Go.Rf.W

/-- A record cut into fragments: what is left, what is laid. -/
def frag : List Int → Nat → List Int → List Int → List Int × List Int
  | [], _, r, out => (r, out)
  | v :: s, f, r, out => if v ≤ 0 ∨ (r.length : Int) ≤ v ∨ 32 ≤ f then frag s f r out else frag s (f + 1) (r.drop v.toNat) (out ++ be 4 v.toNat ++ r.take v.toNat)

theorem frag_end : ∀ (s : List Int) (f : Nat) (r out : List Int), 32 ≤ f → frag s f r out = (r, out)
  | [], _, _, _, _ => rfl
  | v :: s, f, r, out, h => by
    unfold frag
    rw [if_pos (.inr (.inr h))]
    exact frag_end s f r out h

theorem frag_len : ∀ (s : List Int) (f : Nat) (r out : List Int), (frag s f r out).1.length + (frag s f r out).2.length ≤ r.length + out.length + 4 * s.length ∧ (frag s f r out).1.length ≤ r.length
  | [], _, r, out => by simp [frag]
  | v :: s, f, r, out => by
    unfold frag
    split
    · have := frag_len s f r out
      rw [List.length_cons]; omega
    · have := frag_len s (f + 1) (r.drop v.toNat) (out ++ be 4 v.toNat ++ r.take v.toNat)
      simp only [List.length_drop, List.length_append, be_length, List.length_take, List.length_cons] at this ⊢
      omega

theorem dropT (l : List Int) (h : Nat) : List.take (l.length - h) (List.drop h l) = l.drop h := List.take_of_length_le (by simp)

theorem frame_loop {N : Nat} (hN : 100 < N) (sizes : List Int) (hs : sizes.length ≤ 60) : ∀ (d i f : Nat) (fr : Nat) (r out : List Int), i + d = sizes.length → d < f → fr ≤ 40 + i → r.length + out.length ≤ 20000 + 4 * i →
    loopF (rpc_Frame_b0 N) f (r, (fr : Int), sizes, ((sizes.length : Nat) : Int), (i : Int), out) = some (frag (sizes.drop i) fr r out) := by
  intro d
  induction d with
  | zero =>
    intro i f fr r out hi hf hfr hl
    obtain ⟨f, rfl⟩ : ∃ g, f = g + 1 := ⟨f - 1, by omega⟩
    show rpc_Frame_b0 N _ _ = _
    unfold rpc_Frame_b0
    dsimp only
    rw [deF (by omega), cond_false, List.drop_of_length_le (by omega)]
    rfl
  | succ d ih =>
    intro i f fr r out hi hf hfr hl
    obtain ⟨f, rfl⟩ : ∃ g, f = g + 1 := ⟨f - 1, by omega⟩
    have hlt : i < sizes.length := by omega
    have hg : List.getD sizes i (EK.dflt (.int .i64)) = sizes[i] := by rw [List.getD, List.getElem?_eq_getElem hlt]; rfl
    show rpc_Frame_b0 N (loopF (rpc_Frame_b0 N) f) _ = _
    have ih := fun fr r out => ih (i + 1) f fr r out (by omega) (by omega)
    generalize loopF (rpc_Frame_b0 N) f = nx at ih
    rw [List.drop_eq_getElem_cons hlt]
    unfold rpc_Frame_b0 frag
    dsimp only
    rw [deT (p := (i : Int) < ((sizes.length : Nat) : Int)) (by omega), cond_true, deT (p := (0 : Int) ≤ (i : Int)) (by omega), Bool.and_self, cond_true, Int.toNat_natCast, hg, wrapF_i64 (n := (i : Int) + 1) (by omega) (by omega), show (i : Int) + 1 = ((i + 1 : Nat) : Int) by omega]
    generalize sizes[i] = v
    by_cases hsk : v ≤ 0 ∨ (r.length : Int) ≤ v ∨ 32 ≤ fr
    · have hr : (cond (decide (v ≤ (0 : Int))) (some true) (cond (decide (((r.length : Nat) : Int) ≤ v)) (some true) (some (decide ((32 : Int) ≤ (fr : Int)))))) = some true := by
        by_cases a1 : v ≤ 0
        · rw [deT a1]; rfl
        rw [deF a1, cond_false]
        by_cases a2 : (r.length : Int) ≤ v
        · rw [deT a2]; rfl
        rw [deF a2, cond_false, deT (by omega)]
      rw [hr, if_pos hsk, Option.bind_some, cond_true, Option.bind_some]
      exact ih fr r out (by omega) (by omega)
    · have hr : (cond (decide (v ≤ (0 : Int))) (some true) (cond (decide (((r.length : Nat) : Int) ≤ v)) (some true) (some (decide ((32 : Int) ≤ (fr : Int)))))) = some false := by
        rw [deF (by omega), cond_false, deF (by omega), cond_false, deF (by omega)]
      obtain ⟨m, rfl⟩ : ∃ m : Nat, v = (m : Int) := ⟨v.toNat, by omega⟩
      have hp := put1_ok (N := N) (n := m) (size := 4) (b := out) (by omega) (by omega)
      rw [show ((4 : Nat) : Int) = 4 from rfl] at hp
      rw [hr, if_neg hsk, Option.bind_some, cond_false, wrapF_u64 (n := (m : Int)) (by omega) (by omega), hp, Option.bind_some, deT (p := (0 : Int) ≤ (m : Int)) (by omega), deT (p := (m : Int) ≤ ((r.length : Nat) : Int)) (by omega), deT (p := ((r.length : Nat) : Int) ≤ ((r.length : Nat) : Int)) (by omega)]
      simp only [Bool.and_self, cond_true, Int.toNat_natCast, List.drop_zero]
      rw [fits1 (by simp; omega), cond_true, dropT, wrapF_i64 (n := (fr : Int) + 1) (by omega) (by omega), show (fr : Int) + 1 = ((fr + 1 : Nat) : Int) by omega]
      exact ih (fr + 1) _ _ (by omega) (by simp; omega)

/-- A record in fragments. -/
def frames (p sizes : List Int) : List Int := (frag sizes 1 p []).2 ++ be 4 (2147483648 + (frag sizes 1 p []).1.length) ++ (frag sizes 1 p []).1

theorem frame_ok {N : Nat} (hN : 100 < N) {p sizes : List Int} (hp : p.length ≤ 20000) (hs : sizes.length ≤ 60) : rpc_Frame N (p, sizes) = some (frames p sizes) := by
  have h := frame_loop hN sizes hs sizes.length 0 N 1 p [] (by omega) (by omega) (by omega) (by simp; omega)
  have hl := frag_len sizes 1 p []
  rw [List.drop_zero] at h
  unfold rpc_Frame frames
  have h' : rpc_Frame_l0 N (p, (1 : Int), sizes, ((sizes.length : Nat) : Int), (0 : Int), []) = some (frag sizes 1 p []) := h
  dsimp only
  rw [h', Option.bind_some]
  generalize frag sizes 1 p [] = q at hl
  obtain ⟨r, out⟩ := q
  dsimp only at hl ⊢
  simp only [List.length_nil] at hl
  have e1 : wrapF .u32 ((r.length : Nat) : Int) = ((r.length : Nat) : Int) := wrapF_u32 (by omega) (by omega)
  have e2 : orF .u32 2147483648 ((r.length : Nat) : Int) = ((2147483648 + r.length : Nat) : Int) := by
    have := orF_nat .u32 (a := 2147483648) (b := r.length) (by decide) (by rw [two_pow_topA]; show r.length < 4294967296; omega)
    have e := Nat.two_pow_add_eq_or_of_lt (i := 31) (b := r.length) (by show r.length < 2147483648; omega) 1
    rw [show ((2147483648 : Nat) : Int) = 2147483648 from rfl] at this
    rw [this]
    have e' : 2147483648 ||| r.length = 2147483648 + r.length := by simpa using e.symm
    rw [e']
  have hp := put1_ok (N := N) (n := 2147483648 + r.length) (size := 4) (b := out) (by omega) (by omega)
  rw [show ((4 : Nat) : Int) = 4 from rfl] at hp
  rw [e1, e2, wrapF_u64 (by omega) (by omega), hp, Option.bind_some, fits1 (by simp; omega), cond_true]


theorem frame1_ok {N : Nat} (hN : 100 < N) {p sizes : List Int} (hp : p.length ≤ 20000) (hs : sizes.length ≤ 60) : rpc_Frame_v1 N (p, sizes) = some (frames p sizes) := frame_ok hN hp hs

theorem frag_out : ∀ (s : List Int) (f : Nat) (r out : List Int), frag s f r out = ((frag s f r []).1, out ++ (frag s f r []).2)
  | [], f, r, out => by simp [frag]
  | v :: s, f, r, out => by
    unfold frag
    by_cases h : v ≤ 0 ∨ (r.length : Int) ≤ v ∨ 32 ≤ f
    · rw [if_pos h, if_pos h]
      exact frag_out s f r out
    · rw [if_neg h, if_neg h, frag_out s (f + 1) (r.drop v.toNat) (out ++ be 4 v.toNat ++ r.take v.toNat), frag_out s (f + 1) (r.drop v.toNat) ([] ++ be 4 v.toNat ++ r.take v.toNat)]
      simp

/-- What is still to be laid. -/
def laid (s : List Int) (f : Nat) (r : List Int) : List Int := (frag s f r []).2 ++ be 4 (2147483648 + (frag s f r []).1.length) ++ (frag s f r []).1

theorem val_be4 {n : Nat} (h : n < 4294967296) : val (be 4 n) = n := by
  have e := numAt_enc (D := be 4 n) (r := []) (a := 0) (n := n) (by simp) h
  unfold numAt at e
  rw [List.drop_zero, List.take_of_length_le (by simp)] at e
  exact e

theorem run_frag : ∀ (s : List Int) (f : Nat) (r acc : List Int) (recs : List (List Int)) (l : Bool) (held : Nat), 1 ≤ f → f ≤ 32 → acc.length ≤ 4096 → r.length ≤ 20000 →
    FS.run ⟨0, l, f - 1, held, false, [], acc, recs⟩ (laid s f r) = if acc.length + r.length ≤ 4096 then ⟨0, false, 0, 0, false, [], [], recs ++ [acc ++ r]⟩ else ⟨0, false, 0, 0, true, [], [], recs⟩
  | [], f, r, acc, recs, l, held, h1, h2, ha, hr => by
    obtain ⟨X, hX⟩ : ∃ X, X = 2147483648 + r.length := ⟨_, rfl⟩
    have e : laid [] f r = be 4 X ++ r := by
      rw [hX]
      unfold laid
      rw [show frag [] f r [] = (r, []) from rfl, List.nil_append]
    have hv := val_be4 (n := X) (by omega)
    rw [e, run_append, run_head4 (be 4 X) ⟨0, l, f - 1, held, false, [], acc, recs⟩ rfl rfl (Nat.zero_le _) (by simp)]
    unfold FS.begins
    dsimp only
    rw [List.nil_append, hv, show X % 2147483648 = r.length by omega, deT (p := 2147483648 ≤ X) (by omega), show f - 1 + 1 = f by omega]
    by_cases c : acc.length + r.length ≤ 4096
    · rw [if_pos ⟨c, h2⟩, if_pos c, run_rest r ⟨r.length, true, f, held + (be 4 X).length, false, [], acc, recs⟩ rfl]
      dsimp only
      rw [Nat.min_self, Nat.sub_self, List.take_length, List.drop_length]
      rfl
    · rw [if_neg (fun h => c h.1), if_neg c, run_closed _ _ rfl]
  | v :: s, f, r, acc, recs, l, held, h1, h2, ha, hr => by
    by_cases h : v ≤ 0 ∨ (r.length : Int) ≤ v ∨ 32 ≤ f
    · have e : laid (v :: s) f r = laid s f r := by unfold laid; rw [show frag (v :: s) f r [] = frag s f r [] by rw [frag, if_pos h]]
      rw [e]
      exact run_frag s f r acc recs l held h1 h2 ha hr
    · obtain ⟨m, hm⟩ : ∃ m : Nat, v = (m : Int) := ⟨v.toNat, by omega⟩
      subst hm
      have e : laid ((m : Int) :: s) f r = be 4 m ++ (r.take m ++ laid s (f + 1) (r.drop m)) := by
        unfold laid
        rw [show frag ((m : Int) :: s) f r [] = frag s (f + 1) (r.drop m) ([] ++ be 4 m ++ r.take m) by rw [frag, if_neg h]; rfl, frag_out s (f + 1) (r.drop m) ([] ++ be 4 m ++ r.take m)]
        simp
      have hv := val_be4 (n := m) (by omega)
      have htl : (r.take m).length = m := by rw [List.length_take]; omega
      rw [e, run_append, run_head4 (be 4 m) ⟨0, l, f - 1, held, false, [], acc, recs⟩ rfl rfl (Nat.zero_le _) (by simp)]
      unfold FS.begins
      dsimp only
      rw [List.nil_append, hv, show m % 2147483648 = m by omega, deF (p := 2147483648 ≤ m) (by omega), show f - 1 + 1 = f by omega]
      by_cases c : acc.length + m ≤ 4096
      · rw [if_pos ⟨c, h2⟩, run_append]
        have hset : FS.settle ⟨m, false, f, held + (be 4 m).length, false, [], acc, recs⟩ = ⟨m, false, f, held + (be 4 m).length, false, [], acc, recs⟩ := by unfold FS.settle; rw [if_neg (fun h => by cases h.2)]
        rw [hset, run_body (r.take m) ⟨m, false, f, held + (be 4 m).length, false, [], acc, recs⟩ rfl (by rw [htl]; exact Nat.le_refl _) (fun e => by rw [e] at htl; simp at htl; omega)]
        dsimp only
        rw [htl, Nat.sub_self]
        have hset2 : FS.settle ⟨0, false, f, held + (be 4 m).length + m, false, [], acc ++ r.take m, recs⟩ = ⟨0, false, f + 1 - 1, held + (be 4 m).length + m, false, [], acc ++ r.take m, recs⟩ := by unfold FS.settle; rw [if_neg (fun h => by cases h.2)]; rfl
        rw [hset2, run_frag s (f + 1) (r.drop m) (acc ++ r.take m) recs false _ (by omega) (by omega) (by rw [List.length_append, htl]; exact c) (by rw [List.length_drop]; omega)]
        rw [List.length_append, htl, List.length_drop, List.append_assoc, List.take_append_drop]
        by_cases c2 : acc.length + r.length ≤ 4096
        · rw [if_pos c2, if_pos (by omega)]
        · rw [if_neg c2, if_neg (by omega)]
      · rw [if_neg (fun h => c h.1), if_neg (by omega), run_closed _ _ rfl]

theorem run_frames {p sizes : List Int} (hp : p.length ≤ 20000) : FS.new.run (frames p sizes) = if p.length ≤ 4096 then ⟨0, false, 0, 0, false, [], [], [p]⟩ else ⟨0, false, 0, 0, true, [], [], []⟩ := by
  have h := run_frag sizes 1 p [] [] false 0 (by decide) (by decide) (by decide) hp
  rw [List.length_nil, Nat.zero_add, List.nil_append, List.nil_append] at h
  exact h

theorem frames_len {p sizes : List Int} (hp : p.length ≤ 20000) (hs : sizes.length ≤ 60) : (frames p sizes).length ≤ 20300 := by
  have h := frag_len sizes 1 p []
  unfold frames
  simp only [List.length_append, be_length, List.length_nil] at h ⊢
  omega

end Go.Rf.W.Pure
