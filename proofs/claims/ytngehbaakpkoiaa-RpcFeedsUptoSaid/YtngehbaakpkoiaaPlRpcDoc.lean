/-
  Package rpc: the document's framer and the machine that takes one byte after the other.
-/
import Derived.Test.YtngehbaakpkoiaaPlRpcSeg2
import Derived.Test.YtngehbaakpkoiaaPlRpc
set_option linter.unusedVariables false
set_option linter.unusedSimpArgs false
set_option maxRecDepth 10000
namespace Go.Rf.W.Pure
open Go Go.Rf Go.Rf.W

theorem or_low {i a b : Nat} (h : b < 2 ^ i) : (a * 2 ^ i) ||| b = a * 2 ^ i + b := by
  have := Nat.two_pow_add_eq_or_of_lt (i := i) (b := b) h a
  rw [Nat.mul_comm] at this
  exact this.symm

theorem head_val {a b c d : Nat} (ha : a < 256) (hb : b < 256) (hc : c < 256) (hd : d < 256) :
    orF .i64 (orF .i64 (orF .i64 (shlF .i64 (wrapF .i64 (Int.tmod (a : Int) (128 : Int))) (24 : Int)) (shlF .i64 (wrapF .i64 (b : Int)) (16 : Int))) (shlF .i64 (wrapF .i64 (c : Int)) (8 : Int))) (wrapF .i64 (d : Int)) =
      ((val [(a : Int), (b : Int), (c : Int), (d : Int)] % 2147483648 : Nat) : Int) := by
  have e1 : Int.tmod (a : Int) (128 : Int) = ((a % 128 : Nat) : Int) := by
    rw [Int.tmod_eq_emod_of_nonneg (by omega)]; rfl
  have hp : (2 : Nat) ^ topA .i64 = 9223372036854775808 := two_pow_topA .i64
  have s1 : shlF .i64 ((a % 128 : Nat) : Int) (24 : Int) = ((a % 128 * 2 ^ 24 : Nat) : Int) := shlF_nat .i64 (a := a % 128) (n := 24) (by decide) (by rw [hp]; omega)
  have s2 : shlF .i64 (b : Int) (16 : Int) = ((b * 2 ^ 16 : Nat) : Int) := shlF_nat .i64 (a := b) (n := 16) (by decide) (by rw [hp]; omega)
  have s3 : shlF .i64 (c : Int) (8 : Int) = ((c * 2 ^ 8 : Nat) : Int) := shlF_nat .i64 (a := c) (n := 8) (by decide) (by rw [hp]; omega)
  have wn : ∀ n : Nat, n < 9223372036854775808 → wrapF .i64 (n : Int) = (n : Int) := fun n h => wrapF_i64 (by omega) (by omega)
  rw [e1, wn _ (by omega), wn _ (by omega), wn _ (by omega), wn _ (by omega), s1, s2, s3,
    orF_nat .i64 (by rw [hp]; omega) (by rw [hp]; omega), or_low (i := 24) (by omega),
    show a % 128 * 2 ^ 24 + b * 2 ^ 16 = (a % 128 * 256 + b) * 2 ^ 16 by omega,
    orF_nat .i64 (by rw [hp]; omega) (by rw [hp]; omega), or_low (i := 16) (by omega),
    show (a % 128 * 256 + b) * 2 ^ 16 + c * 2 ^ 8 = ((a % 128 * 256 + b) * 256 + c) * 2 ^ 8 by omega,
    orF_nat .i64 (by rw [hp]; omega) (by rw [hp]; omega), or_low (i := 8) (by omega)]
  simp only [val, valA, Int.toNat_natCast]
  omega

theorem head_top {a b c d : Nat} (ha : a < 256) (hb : b < 256) (hc : c < 256) (hd : d < 256) :
    decide ((128 : Int) ≤ (a : Int)) = decide (2147483648 ≤ val [(a : Int), (b : Int), (c : Int), (d : Int)]) := by
  have : val [(a : Int), (b : Int), (c : Int), (d : Int)] = ((a * 256 + b) * 256 + c) * 256 + d := by
    simp only [val, valA, Int.toNat_natCast]; omega
  rw [this]
  exact decide_eq_decide.2 (by omega)

/-- A machine at the start of a fragment. -/
def FS.at (frags held : Nat) (part : List Int) : FS := ⟨0, false, frags, held, false, [], part, []⟩

/-- What the document's record tells of the bytes that are left. -/
def Rec (s : FS) (q : List Int) (a : Nat) (r : Int × Bool × Bool × List Int) : Prop :=
  (∃ m : Nat, r = (((a + m : Nat) : Int), true, false, r.2.2.2) ∧ 4 ≤ m ∧ m ≤ q.length ∧ s.run (q.take m) = ⟨0, false, 0, 0, false, [], [], [r.2.2.2]⟩ ∧ r.2.2.2.length ≤ 4096) ∨
  (r = (0, false, false, []) ∧ (s.run q).closed = false ∧ (s.run q).recs = [] ∧ (s.run q).held = s.held + q.length) ∨
  (r = (0, false, true, []) ∧ s.run q = ⟨0, false, 0, 0, true, [], [], []⟩)

theorem rec_loop {N : Nat} {B : List Int} (hB : Bts B) (hl : B.length ≤ 100000) : ∀ (f a frags held : Nat) (part : List Int), a ≤ B.length → B.length - a < f → part.length ≤ 4096 → frags ≤ 32 →
    ∃ r, loopF (granaryref21_record_b0 N) f (B, (a : Int), ((frags + 1 : Nat) : Int), part) = some r ∧ Rec (FS.at frags held part) (B.drop a) a r := by
  intro f
  induction f with
  | zero => intro a frags held part ha hf; omega
  | succ f ih =>
    intro a frags held part ha hf hp hfr
    show ∃ r, granaryref21_record_b0 N (loopF (granaryref21_record_b0 N) f) _ = some r ∧ _
    generalize loopF (granaryref21_record_b0 N) f = nx at ih
    have hq : (B.drop a).length = B.length - a := List.length_drop
    unfold granaryref21_record_b0
    dsimp only
    rw [wrapF_i64 (n := ((B.length : Nat) : Int) - (a : Int)) (by omega) (by omega)]
    by_cases h4 : B.length - a < 4
    · rw [deT (p := ((B.length : Nat) : Int) - (a : Int) < 4) (by omega), cond_true]
      refine ⟨_, rfl, .inr (.inl ⟨rfl, ?_⟩)⟩
      rw [run_head (B.drop a) (FS.at frags held part) rfl rfl (by show 0 + _ < 4; omega)]
      exact ⟨rfl, rfl, rfl⟩
    · rw [deF (p := ((B.length : Nat) : Int) - (a : Int) < 4) (by omega), cond_false]
      obtain ⟨na, ha1, ha2⟩ : ∃ n : Nat, List.getD B a (EK.dflt (.int .u8)) = (n : Int) ∧ n < 256 := by
        have := hB (B.getD a 0) (by rw [List.getD_eq_getElem?_getD, List.getElem?_eq_getElem (show a < B.length by omega)]; exact List.getElem_mem _)
        exact ⟨(B.getD a 0).toNat, by show B.getD a 0 = _; omega, by omega⟩
      have hby : ∀ j, a + j < B.length → ∃ n : Nat, List.getD B (a + j) (EK.dflt (.int .u8)) = (n : Int) ∧ n < 256 := fun j hj => by
        have := hB (B.getD (a + j) 0) (by rw [List.getD_eq_getElem?_getD, List.getElem?_eq_getElem hj]; exact List.getElem_mem _)
        exact ⟨(B.getD (a + j) 0).toNat, by show B.getD (a + j) 0 = _; omega, by omega⟩
      obtain ⟨nb, hb1, hb2⟩ := hby 1 (by omega)
      obtain ⟨nc, hc1, hc2⟩ := hby 2 (by omega)
      obtain ⟨nd, hd1, hd2⟩ := hby 3 (by omega)
      have hh : (B.drop a).take 4 = [(na : Int), (nb : Int), (nc : Int), (nd : Int)] := by
        have g : ∀ j, a + j < B.length → (B.drop a)[j]? = some (List.getD B (a + j) (EK.dflt (.int .u8))) := fun j hj => by
          rw [List.getElem?_drop, List.getD_eq_getElem?_getD, List.getElem?_eq_getElem hj]; rfl
        apply List.ext_getElem?
        intro j
        rcases j with _ | _ | _ | _ | j
        · rw [List.getElem?_take_of_lt (by omega), g 0 (by omega), Nat.add_zero, ha1]; rfl
        · rw [List.getElem?_take_of_lt (by omega), g 1 (by omega), hb1]; rfl
        · rw [List.getElem?_take_of_lt (by omega), g 2 (by omega), hc1]; rfl
        · rw [List.getElem?_take_of_lt (by omega), g 3 (by omega), hd1]; rfl
        · rw [List.getElem?_eq_none (by rw [List.length_take]; omega)]; rfl
      have hv := head_val ha2 hb2 hc2 hd2
      have ht := head_top ha2 hb2 hc2 hd2
      have q1 : ∀ j : Nat, j ≤ 4 → wrapF .i64 ((a : Int) + (j : Int)) = ((a + j : Nat) : Int) := fun j hj => by rw [wrapF_i64 (by omega) (by omega)]; omega
      have q11 := q1 1 (by omega)
      have q12 := q1 2 (by omega)
      have q13 := q1 3 (by omega)
      have q14 := q1 4 (by omega)
      have z : ∀ j : Nat, (0 : Int) ≤ ((a + j : Nat) : Int) := fun j => by omega
      have zl : ∀ j : Nat, j < 4 → ((a + j : Nat) : Int) < ((B.length : Nat) : Int) := fun j hj => by omega
      rw [show (1 : Int) = ((1 : Nat) : Int) from rfl, show (2 : Int) = ((2 : Nat) : Int) from rfl, show (3 : Int) = ((3 : Nat) : Int) from rfl, show (4 : Int) = ((4 : Nat) : Int) from rfl, q11, q12, q13, q14,
        deT (p := (0 : Int) ≤ (a : Int)) (by omega), deT (p := (a : Int) < ((B.length : Nat) : Int)) (by omega), deT (z 1), deT (zl 1 (by omega)), deT (z 2), deT (zl 2 (by omega)), deT (z 3), deT (zl 3 (by omega)), Bool.and_self, cond_true, cond_true, cond_true, cond_true, cond_true,
        Int.toNat_natCast, Int.toNat_natCast, Int.toNat_natCast, Int.toNat_natCast, ha1, hb1, hc1, hd1, hv, ht]
      generalize hV : val [(na : Int), (nb : Int), (nc : Int), (nd : Int)] = V
      have hVl : V < 4294967296 := by
        rw [← hV]
        refine val_lt (l := [(na : Int), (nb : Int), (nc : Int), (nd : Int)]) (fun x hx => ?_) (k := 4) (Nat.le_refl _)
        simp only [List.mem_cons, List.not_mem_nil, or_false] at hx
        rcases hx with rfl | rfl | rfl | rfl <;> omega
      generalize hL : V % 2147483648 = L
      have hrun4 : (FS.at frags held part).run ((B.drop a).take 4) = (FS.at frags held part).begins ((B.drop a).take 4) 4 := by
        have h := run_head4 ((B.drop a).take 4) (FS.at frags held part) rfl rfl (by show 0 ≤ 3; omega) (by show 0 + _ = 4; rw [List.length_take, hq]; omega)
        have hn : ((B.drop a).take 4).length = 4 := by rw [List.length_take, hq]; omega
        rw [hn] at h
        exact h
      rw [hh] at hrun4
      unfold FS.begins at hrun4
      rw [hV, hL] at hrun4
      have hsplit : B.drop a = [(na : Int), (nb : Int), (nc : Int), (nd : Int)] ++ B.drop (a + 4) := by
        rw [← hh, ← List.drop_drop, List.take_append_drop]
      rw [wrapF_i64 (n := ((part.length : Nat) : Int) + (L : Int)) (by omega) (by omega)]
      by_cases hbad : part.length + L ≤ 4096 ∧ frags + 1 ≤ 32
      · have z1 : ¬ (4096 : Int) < ((part.length : Nat) : Int) + (L : Int) := by omega
        have z2 : ¬ (32 : Int) < ((frags + 1 : Nat) : Int) := by omega
        rw [deF z1, cond_false, deF z2, Option.bind_some, cond_false]
        have hc' : (FS.at frags held part).part.length + L ≤ 4096 ∧ (FS.at frags held part).frags + 1 ≤ 32 := hbad
        rw [if_pos hc'] at hrun4
        have hrest := fun c => run_rest c ⟨L, decide (2147483648 ≤ V), frags + 1, held + 4, false, [], part, []⟩ rfl
        rw [wrapF_i64 (n := ((B.length : Nat) : Int) - ((a + 4 : Nat) : Int)) (by omega) (by omega)]
        have hq4 : (B.drop (a + 4)).length = B.length - (a + 4) := List.length_drop
        by_cases hw : B.length - (a + 4) < L
        · rw [deT (p := ((B.length : Nat) : Int) - ((a + 4 : Nat) : Int) < (L : Int)) (by omega), cond_true]
          refine ⟨_, rfl, .inr (.inl ⟨rfl, ?_⟩)⟩
          have h := hrest (B.drop (a + 4))
          dsimp only at h
          rw [hq4, Nat.min_eq_left (Nat.le_of_lt hw), List.drop_eq_nil_of_le (as := B.drop (a + 4)) (i := B.length - (a + 4)) (by omega)] at h
          have hs : FS.settle ⟨L - (B.length - (a + 4)), decide (2147483648 ≤ V), frags + 1, held + 4 + (B.length - (a + 4)), false, [], part ++ List.take (B.length - (a + 4)) (B.drop (a + 4)), []⟩ = ⟨L - (B.length - (a + 4)), decide (2147483648 ≤ V), frags + 1, held + 4 + (B.length - (a + 4)), false, [], part ++ List.take (B.length - (a + 4)) (B.drop (a + 4)), []⟩ := by
            unfold FS.settle
            rw [if_neg (fun hx => by have := hx.1; dsimp only at this; omega)]
          rw [hs] at h
          rw [hsplit, run_append, hrun4]
          have e : (FS.mk L (decide (2147483648 ≤ V)) ((FS.at frags held part).frags + 1) ((FS.at frags held part).held + 4) false [] (FS.at frags held part).part (FS.at frags held part).recs).settle.run (B.drop (a + 4)) = _ := h
          rw [e]
          refine ⟨rfl, rfl, ?_⟩
          show held + 4 + (B.length - (a + 4)) = held + _
          rw [List.length_append, hq4]
          simp only [List.length_cons, List.length_nil]
          omega
        · have z3 : ¬ ((B.length : Nat) : Int) - ((a + 4 : Nat) : Int) < (L : Int) := by omega
          have w1 : wrapF .i64 (((a + 4 : Nat) : Int) + (L : Int)) = ((a + 4 + L : Nat) : Int) := by rw [wrapF_i64 (by omega) (by omega)]; omega
          have z4 : (0 : Int) ≤ ((a + 4 : Nat) : Int) := by omega
          have z5 : ((a + 4 : Nat) : Int) ≤ ((a + 4 + L : Nat) : Int) := by omega
          have z6 : ((a + 4 + L : Nat) : Int) ≤ ((B.length : Nat) : Int) := by omega
          have tl : (List.take L (B.drop (a + 4))).length = L := by rw [List.length_take, hq4]; omega
          have f1 : fits 1 (part.length + (List.take L (B.drop (a + 4))).length) = true := fits1 (by rw [tl]; omega)
          rw [deF z3, cond_false, w1, deT z4, deT z5, deT z6, Bool.and_self, Bool.and_self, cond_true, Int.toNat_natCast, Int.toNat_natCast, show a + 4 + L - (a + 4) = L by omega, f1, cond_true]
          have hrunL : (FS.at frags held part).run ((B.drop a).take (4 + L)) = FS.settle ⟨0, decide (2147483648 ≤ V), frags + 1, held + 4 + L, false, [], part ++ List.take L (B.drop (a + 4)), []⟩ := by
            have h := hrest (List.take L (B.drop (a + 4)))
            dsimp only at h
            rw [tl, Nat.min_self, List.drop_eq_nil_of_le (as := List.take L (B.drop (a + 4))) (i := L) (by omega), Nat.sub_self, List.take_of_length_le (l := List.take L (B.drop (a + 4))) (by omega)] at h
            have e : (B.drop a).take (4 + L) = [(na : Int), (nb : Int), (nc : Int), (nd : Int)] ++ List.take L (B.drop (a + 4)) := by
              rw [hsplit, List.take_append, List.take_of_length_le (l := [(na : Int), (nb : Int), (nc : Int), (nd : Int)]) (by simp)]
              congr 2
              simp
            rw [e, run_append, hrun4]
            exact h
          cases hlast : decide (2147483648 ≤ V) with
          | true =>
            rw [hlast] at hrunL
            rw [cond_true]
            refine ⟨_, rfl, .inl ⟨4 + L, ?_, by omega, by omega, ?_, ?_⟩⟩
            · dsimp only
              rw [show a + (4 + L) = a + 4 + L by omega]
            · rw [hrunL]; rfl
            · dsimp only
              rw [List.length_append, tl]; omega
          | false =>
            rw [hlast] at hrunL
            rw [cond_false, wrapF_i64 (n := ((frags + 1 : Nat) : Int) + ((1 : Nat) : Int)) (by omega) (by omega), show ((frags + 1 : Nat) : Int) + ((1 : Nat) : Int) = ((frags + 1 + 1 : Nat) : Int) by omega]
            obtain ⟨r, r1, r2⟩ := ih (a + 4 + L) (frags + 1) (held + 4 + L) (part ++ List.take L (B.drop (a + 4))) (by omega) (by omega) (by rw [List.length_append, tl]; omega) hbad.2
            refine ⟨r, r1, ?_⟩
            have hd : B.drop a = (B.drop a).take (4 + L) ++ B.drop (a + 4 + L) := by
              rw [show a + 4 + L = a + (4 + L) by omega, ← List.drop_drop, List.take_append_drop]
            have hst : (FS.at frags held part).run ((B.drop a).take (4 + L)) = FS.at (frags + 1) (held + 4 + L) (part ++ List.take L (B.drop (a + 4))) := hrunL
            have hqL : (B.drop (a + 4 + L)).length = B.length - (a + 4 + L) := List.length_drop
            rcases r2 with ⟨m, m1, m2, m3, m4, m5⟩ | ⟨m1, m2, m3, m4⟩ | ⟨m1, m2⟩
            · refine .inl ⟨4 + L + m, ?_, by omega, by omega, ?_, m5⟩
              · rw [m1]
                dsimp only
                rw [show a + 4 + L + m = a + (4 + L + m) by omega]
              · have e : (B.drop a).take (4 + L + m) = (B.drop a).take (4 + L) ++ (B.drop (a + 4 + L)).take m := by
                  rw [show a + 4 + L = a + (4 + L) by omega, ← List.drop_drop]
                  exact List.take_add
                rw [e, run_append, hst, m4]
            · refine .inr (.inl ⟨m1, ?_⟩)
              rw [hd, run_append, hst]
              refine ⟨m2, m3, ?_⟩
              rw [m4, List.length_append, hqL, List.length_take, hq]
              show held + 4 + L + _ = held + _
              omega
            · refine .inr (.inr ⟨m1, ?_⟩)
              rw [hd, run_append, hst, m2]
      · have hz : (cond (decide ((4096 : Int) < ((part.length : Nat) : Int) + (L : Int))) (some true) (some (decide ((32 : Int) < ((frags + 1 : Nat) : Int))))) = some true := by
          by_cases h1 : (4096 : Int) < ((part.length : Nat) : Int) + (L : Int)
          · rw [deT h1]; rfl
          · rw [deF h1, cond_false, deT (p := (32 : Int) < ((frags + 1 : Nat) : Int)) (by omega)]
        rw [hz, Option.bind_some, cond_true]
        refine ⟨_, rfl, .inr (.inr ⟨rfl, ?_⟩)⟩
        have hc' : ¬ ((FS.at frags held part).part.length + L ≤ 4096 ∧ (FS.at frags held part).frags + 1 ≤ 32) := hbad
        rw [if_neg hc'] at hrun4
        rw [hsplit, run_append, hrun4]
        exact run_closed _ _ rfl

end Go.Rf.W.Pure
