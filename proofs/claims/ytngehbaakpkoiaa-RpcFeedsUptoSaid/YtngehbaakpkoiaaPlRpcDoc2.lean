/-
  Package rpc: the document's framer fed with a chunk.
-/
import Derived.Test.YtngehbaakpkoiaaPlRpcDoc
set_option linter.unusedVariables false
set_option linter.unusedSimpArgs false
set_option maxRecDepth 10000
namespace Go.Rf.W.Pure
open Go Go.Rf Go.Rf.W

/-- A machine at the start of a record, with these behind it. -/
def FS.start (O : List (List Int)) : FS := ⟨0, false, 0, 0, false, [], [], O⟩
theorem start_run (O : List (List Int)) (c : List Int) : (FS.start O).run c = ((FS.start []).run c).on O := by
  rw [← run_on]
  unfold FS.on FS.start
  dsimp only
  rw [List.append_nil]

def FS.clr (s : FS) : FS := ⟨s.n, s.last, s.frags, s.held, s.closed, s.head, s.part, []⟩

theorem on_clr {X T : FS} {r : List (List Int)} (h : X.on r = T) (hr : T.recs = r) : X = T.clr := by
  subst h
  obtain ⟨n, last, frags, held, closed, head, part, recs⟩ := X
  have h : r ++ recs = r := hr
  have : recs = [] := by
    have := congrArg List.length h
    rw [List.length_append] at this
    exact List.length_eq_zero_iff.1 (by omega)
  subst this
  rfl

theorem dfeed_loop {N : Nat} {B : List Int} (hB : Bts B) (hl : B.length ≤ 100000) (hN : B.length + 1 < N) : ∀ (f a : Nat) (O : List (List Int)), a ≤ B.length → B.length - a < f → O.length + (B.length - a) < 200000 →
    ∃ a' : Nat, loopF (granaryref21_Framer_Feed_v1_b0 N) f ((a : Int), false, B, O) = some (if ((FS.start O).run (B.drop a)).closed = true then 210 else 0, (a' : Int), ((FS.start O).run (B.drop a)).closed, B, ((FS.start O).run (B.drop a)).recs) ∧
      (((FS.start O).run (B.drop a)).closed = false → a' ≤ B.length ∧ ((FS.start O).run (B.drop a)).held = B.length - a' ∧ (FS.start []).run (B.drop a') = ((FS.start O).run (B.drop a)).clr) := by
  intro f
  induction f with
  | zero => intro a O ha hf; omega
  | succ f ih =>
    intro a O ha hf hO
    obtain ⟨r, r1, r2⟩ := rec_loop (N := N) hB hl N a 0 0 [] ha (by omega) (by simp) (by omega)
    have r1' : granaryref21_record N (B, (a : Int)) = some r := by
      unfold granaryref21_record
      have : granaryref21_record_l0 N (B, (a : Int), (1 : Int), ([] : List Int)) = some r := r1
      dsimp only
      rw [this]; rfl
    show ∃ a' : Nat, granaryref21_Framer_Feed_v1_b0 N (loopF (granaryref21_Framer_Feed_v1_b0 N) f) _ = _ ∧ _
    generalize loopF (granaryref21_Framer_Feed_v1_b0 N) f = nx at ih
    have hst : FS.at 0 0 [] = FS.start [] := rfl
    rw [hst] at r2
    unfold granaryref21_Framer_Feed_v1_b0
    dsimp only
    rw [r1', Option.bind_some]
    rcases r2 with ⟨m, m1, m2, m3, m4, m5⟩ | ⟨m1, m2, m3, m4⟩ | ⟨m1, m2⟩
    · obtain ⟨r0, rb, rc, R⟩ := r
      dsimp only at m1 m4 m5 ⊢
      injection m1 with e1 e2
      injection e2 with e3 e4
      injection e4 with e5 e6
      subst e1 e3 e5
      have hq : (B.drop a).length = B.length - a := List.length_drop
      have f1 : fits 1 R.length = true := fits1 (by omega)
      have f2 : fits 24 (O.length + ([R] : List (List Int)).length) = true := fits24 (by simp; omega)
      rw [cond_false, Bool.not_true, cond_false, f1, cond_true, f2, cond_true]
      have hd : B.drop a = (B.drop a).take m ++ B.drop (a + m) := by
        rw [← List.drop_drop, List.take_append_drop]
      have hT : (FS.start O).run (B.drop a) = (FS.start (O ++ [R])).run (B.drop (a + m)) := by
        conv => lhs; rw [hd]
        rw [run_append, start_run O, m4]
        rfl
      rw [hT]
      exact ih (a + m) (O ++ [R]) (by omega) (by omega) (by simp; omega)
    · subst m1
      rw [cond_false, Bool.not_false, cond_true]
      refine ⟨a, ?_, ?_⟩
      · rw [start_run O]
        show _ = some (if ((FS.start []).run (B.drop a)).closed = true then 210 else 0, (a : Int), ((FS.start []).run (B.drop a)).closed, B, O ++ ((FS.start []).run (B.drop a)).recs)
        rw [m2, m3, List.append_nil]
        rfl
      · intro _
        rw [start_run O]
        refine ⟨ha, ?_, ?_⟩
        · show ((FS.start []).run (B.drop a)).held = _
          rw [m4, List.length_drop]
          show 0 + _ = _
          omega
        · refine on_clr rfl ?_
          show O ++ ((FS.start []).run (B.drop a)).recs = O
          rw [m3, List.append_nil]
    · subst m1
      rw [cond_true]
      refine ⟨a, ?_, ?_⟩
      · rw [start_run O, m2]
        show _ = some (_, _, _, _, O ++ [])
        rw [List.append_nil]
        rfl
      · intro h
        rw [start_run O, m2] at h
        cases h

/-- What is between two chunks. -/
def Inv (t : FS) (a : Nat) (B : List Int) : Prop :=
  t.recs = [] ∧ t.ok ∧ t.held ≤ B.length ∧ Bts B ∧ (t.closed = true → t.held = 0) ∧ (t.closed = false → a ≤ B.length ∧ t.held = B.length - a ∧ (FS.start []).run (B.drop a) = t)

theorem inv_start : Inv (FS.start []) 0 [] :=
  ⟨rfl, ⟨Nat.zero_le _, Nat.zero_le _, Nat.zero_le _, (fun x hx => by cases hx)⟩, Nat.le_refl _, (fun x hx => by cases hx), (fun h => by cases h), fun _ => ⟨Nat.le_refl _, rfl, rfl⟩⟩

theorem dfeed_ok {N : Nat} {t : FS} {a : Nat} {B c : List Int} (h : Inv t a B) (hc : Bts c) (hl : B.length + c.length ≤ 100000) (hN : B.length + c.length + 1 < N) :
    ∃ (a' : Nat) (B' : List Int), granaryref21_Framer_Feed_v1 N (c, (a : Int), t.closed, B) = some (if (t.run c).closed = true then 210 else 0, (a' : Int), (t.run c).closed, (t.run c).recs, B') ∧ Inv (t.run c).clr a' B' ∧ B'.length ≤ B.length + c.length := by
  obtain ⟨h1, h2, h3, h4, h5, h6⟩ := h
  have hp := run_props c t hc h2
  unfold granaryref21_Framer_Feed_v1
  dsimp only
  by_cases hcl : t.closed = true
  · have e := run_closed c t hcl
    rw [e, hcl, cond_true, h1]
    refine ⟨a, B, rfl, ⟨rfl, h2, h3, h4, h5, fun hx => ?_⟩, by omega⟩
    rw [show t.clr.closed = t.closed from rfl, hcl] at hx; cases hx
  · have hcl' : t.closed = false := by simpa using hcl
    obtain ⟨g1, g2, g3⟩ := h6 hcl'
    have hBc : Bts (B ++ c) := fun x hx => by
      rcases List.mem_append.1 hx with hx | hx
      · exact h4 x hx
      · exact hc x hx
    have hlen : (B ++ c).length = B.length + c.length := List.length_append
    have hT : (FS.start []).run ((B ++ c).drop a) = t.run c := by
      rw [List.drop_append_of_le_length g1, run_append, g3]
    obtain ⟨a', d1, d2⟩ := dfeed_loop (N := N) hBc (by omega) (by omega) N a [] (by omega) (by omega) (by simp; omega)
    rw [hT] at d1 d2
    have f1 : fits 1 (B.length + c.length) = true := fits1 (by omega)
    have d1' : granaryref21_Framer_Feed_v1_l0 N ((a : Int), false, B ++ c, ([] : List (List Int))) = _ := d1
    rw [hcl', cond_false, f1, cond_true, d1', Option.bind_some]
    refine ⟨a', B ++ c, rfl, ⟨rfl, hp.1, ?_, hBc, fun hx => ?_, fun hx => ?_⟩, by omega⟩
    · have := hp.2.2.1
      show (t.run c).held ≤ _
      omega
    · have e := hp.2.2.2 hcl' hx
      show (t.run c).held = 0
      rw [e]
    · have := d2 hx
      exact ⟨this.1, this.2.1, this.2.2⟩

end Go.Rf.W.Pure
