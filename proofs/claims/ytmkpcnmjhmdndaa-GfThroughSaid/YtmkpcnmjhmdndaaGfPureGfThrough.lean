/-
  What goes through points does; what is of less degree comes back: the plain law.
-/
import Derived.Test.YtmkpcnmjhmdndaaGfFGfThrough
import Derived.Test.YtmkpcnmjhmdndaaPlGfThr
import Derived.Test.YtmkpcnmjhmdndaaRfC
set_option linter.unusedVariables false
set_option linter.unusedSimpArgs false
namespace Go.Rf.W.Pure
open Go Go.Rf Go.Rf.W Go.Rf.Lin

theorem live600 : granarylaw02_live 600 () = some true := by decide +kernel
theorem num_eq (x : Int) : granarylaw02_num x = some x := rfl

theorem u8s {J : List Int} (h1 : EK.wf (.sl (.int .u8)) J) : ∀ y, y ∈ J → 0 ≤ y ∧ y < 256 := by
  intro y hy
  have h2 : EK.wf (.int .u8) y := h1.2 y hy
  have h3 : 0 ≤ y ∧ y ≤ 255 := by simpa [EK.wf, Lit.wf, IntKind.min, IntKind.max, IntKind.signed, IntKind.bits] using h2
  omega

theorem loop0 {N n m : Nat} (hN : 20 ≤ N) (hn : n ≤ 100) (hm : m ≤ 100) {X Y P Q : List Int} {p y q u : Nat → G} (hX : Vec n X p) (hY : Vec n Y y) (hP : Vec m P q) (hQ : Vec n Q u) (ht : ∀ k, k < n → ev n u (p k) = y k) :
    ∀ (d f i : Nat) (L : List Int), i + d = n → d < f → Vec i L (fun k => ev m q (p k)) →
      ∃ L', loopF (granarylaw02_GfThrough_b0 N) f (X, Y, P, (i : Int), Q, L) = some (.inr (Q, L')) ∧ Vec n L' (fun k => ev m q (p k)) := by
  have hlX := hX.len
  have hlY := hY.len
  have hlP := hP.len
  intro d
  induction d with
  | zero =>
    intro f i L hi hf hL
    obtain ⟨f, rfl⟩ : ∃ g, f = g + 1 := ⟨f - 1, by omega⟩
    have : i = n := by omega
    subst this
    exact ⟨L, by simp [loopF, granarylaw02_GfThrough_b0, hlX], hL⟩
  | succ d ih =>
    intro f i L hi hf hL
    obtain ⟨f, rfl⟩ : ∃ g, f = g + 1 := ⟨f - 1, by omega⟩
    have hin : i < n := by omega
    have hl := hL.len
    obtain ⟨L', e1, e2⟩ := ih f (i + 1) _ (by omega) (by omega) ((hL.append (ev m q (p i))).congr (fun j hj => by
      by_cases h : j = i
      · subst h; rw [if_pos rfl]
      · rw [if_neg h]))
    refine ⟨L', ?_, e2⟩
    rw [← e1]
    have z1 : (i : Int) < ((X.length : Nat) : Int) := by omega
    have z2 : (0 : Int) ≤ (i : Int) := by omega
    have z3 : (i : Int) < ((Y.length : Nat) : Int) := by omega
    have z4 : fits 1 P.length = true := by simp [fits]; omega
    have z5 : fits 1 (L.length + 1) = true := by simp [fits]; omega
    have ev1 := evalG (N := N) hN (p i) hQ (by omega)
    have ev2 := evalG (N := N) hN (p i) hP (by omega)
    have z6 : ((ev n u (p i)).n : Int) = ((y i).n : Int) := by rw [ht i hin]
    simp only [loopF, granarylaw02_GfThrough_b0, dT z1, dT z2, dT z3, cond_true, Bool.and_self, Int.toNat_natCast, hX.getK hin, hY.getK hin, ev1, ev2, Option.bind_some, dT z6, Bool.not_true, cond_false, z4, List.drop_zero, List.take_succ_cons, List.take_zero, List.length_cons, List.length_nil, Nat.zero_add, Nat.le_refl, decide_true, z5, wrap_succ (show i ≤ 1000000 by omega)]

theorem loop2 {N n m : Nat} (hn : n ≤ 100) (hm : m ≤ n) {P B : List Int} {q b : Nat → G} (hP : Vec m P q) (hB : Vec n B b) (h : ∀ j, j < n → b j = if j < m then q j else 0) :
    ∀ (d f i : Nat), i + d = n → d < f → loopF (granarylaw02_GfThrough_b2 N) f (P, (i : Int), B) = some (.inr B) := by
  have hlP := hP.len
  have hlB := hB.len
  intro d
  induction d with
  | zero =>
    intro f i hi hf
    obtain ⟨f, rfl⟩ : ∃ g, f = g + 1 := ⟨f - 1, by omega⟩
    have : i = n := by omega
    subst this
    simp [loopF, granarylaw02_GfThrough_b2, hlB]
  | succ d ih =>
    intro f i hi hf
    obtain ⟨f, rfl⟩ : ∃ g, f = g + 1 := ⟨f - 1, by omega⟩
    have hin : i < n := by omega
    rw [← ih f (i + 1) (by omega) (by omega)]
    have z1 : (i : Int) < ((B.length : Nat) : Int) := by omega
    have z2 : (0 : Int) ≤ (i : Int) := by omega
    have z3 : i < B.length := by omega
    have hb := h i hin
    have w1 := wrap_succ (a := i) (by omega)
    by_cases him : i < m
    · have z4 : (i : Int) < ((P.length : Nat) : Int) := by omega
      have z5 : ((b i).n : Int) = ((q i).n : Int) := by rw [hb, if_pos him]
      simp only [loopF, granarylaw02_GfThrough_b2, dT z1, dT z2, dT z3, dT z4, cond_true, Bool.and_self, Int.toNat_natCast, hP.getK him, hB.getK hin, Option.bind_some, dT z5, Bool.not_true, cond_false, w1]
    · have z4 : ¬ ((i : Int) < ((P.length : Nat) : Int)) := by omega
      have z5 : ((b i).n : Int) = 0 := by rw [hb, if_neg him]; rfl
      simp only [loopF, granarylaw02_GfThrough_b2, dT z1, dT z2, dT z3, dF z4, cond_true, cond_false, Bool.and_self, Int.toNat_natCast, hB.getK hin, Option.bind_some, dT z5, Bool.not_true, cond_false, w1]

theorem gfThrough (x : EKs [(.sl (.int .u8)), (.sl (.int .u8)), (.sl (.int .u8))]) (hw : wfs [(.sl (.int .u8)), (.sl (.int .u8)), (.sl (.int .u8))] x) : ∃ N, granarylaw02_GfThrough N (x.1, x.2.1, x.2.2) = some true := by
  obtain ⟨X, Y, P⟩ := x
  change List Int at X Y P
  have hX := Vec.of (u8s (J := X) hw.1)
  have hY := Vec.of (u8s (J := Y) hw.2.1)
  have hP := Vec.of (u8s (J := P) hw.2.2)
  refine ⟨600, ?_⟩
  show granarylaw02_GfThrough 600 (X, Y, P) = some true
  by_cases d1 : (60 : Int) < ((X.length : Nat) : Int)
  · simp only [granarylaw02_GfThrough, dT d1, Option.bind_some, cond_true, live600]
  by_cases d2 : (60 : Int) < ((Y.length : Nat) : Int)
  · simp only [granarylaw02_GfThrough, dF d1, dT d2, Option.bind_some, cond_true, cond_false, live600]
  by_cases d3 : (60 : Int) < ((P.length : Nat) : Int)
  · simp only [granarylaw02_GfThrough, dF d1, dF d2, dT d3, Option.bind_some, cond_true, cond_false, live600]
  have f1 : fits 1 X.length = true := by simp [fits]; omega
  have f2 : fits 1 Y.length = true := by simp [fits]; omega
  have n1 : ¬ ((23 : Int) = 0) := by omega
  have n2 : ¬ ((21 : Int) = 0) := by omega
  by_cases hl : X.length = Y.length
  · rw [← hl] at hY
    rcases through_ok (N := 600) (by omega) (by omega) hX hY with ⟨a1, a2⟩ | ⟨a1, Q, u, a2, a3, a4⟩
    · simp only [granarylaw02_GfThrough, dF d1, dF d2, dF d3, f1, f2, a2, num_eq, dF n2, Bool.not_false, Option.bind_some, cond_true, cond_false, live600]
    · have hlQ := a3.len
      have e0 : ((0 : Nat) : Int) = 0 := rfl
      obtain ⟨L, l1, l2⟩ := loop0 (N := 600) (by omega) (by omega) (by omega) hX hY hP a3 a4 X.length 600 0 [] (by omega) (by omega) ⟨rfl, fun j hj => absurd hj (by omega)⟩
      rw [e0] at l1
      have z1 : ((Q.length : Nat) : Int) = ((X.length : Nat) : Int) := by omega
      unfold granarylaw02_GfThrough
      dsimp only
      rw [dF d1, cond_false, dF d2, cond_false, dF d3, Option.bind_some, cond_false, f1, cond_true, f2, cond_true, a2, Option.bind_some, num_eq, Option.bind_some, dT rfl, Bool.not_true, cond_false, dT z1, Bool.not_true, cond_false, granarylaw02_GfThrough_l0, l1, Option.bind_some]
      dsimp only
      by_cases d4 : ((X.length : Nat) : Int) < ((P.length : Nat) : Int)
      · rw [dT d4, cond_true, live600]; rfl
      · rw [dF d4, cond_false]
        rcases through_ok (N := 600) (by omega) (by omega) hX l2 with ⟨b1, _⟩ | ⟨_, B, b, b2, b3, b4⟩
        · exact absurd a1 b1
        · have hlB := b3.len
          have z2 : ((B.length : Nat) : Int) = ((X.length : Nat) : Int) := by omega
          have hb : ∀ j, j < X.length → b j = if j < P.length then G.of (P.getD j 0).toNat else 0 := by
            refine poly_unique a1 (fun i hi => ?_)
            rw [b4 i hi]
            refine Eq.trans (ev_congr (v := fun j => if j < P.length then G.of (P.getD j 0).toNat else 0) (fun j hj => by rw [if_pos hj]) _) ?_
            exact (ev_more (fun j hj => by rw [if_neg (by omega)]) _ (by omega)).symm
          have hl2 := loop2 (N := 600) (by omega) (by omega) hP b3 hb X.length 600 0 (by omega) (by omega)
          rw [e0] at hl2
          rw [b2, Option.bind_some, num_eq, Option.bind_some, dT rfl, Bool.not_true, cond_false]
          dsimp only
          rw [dT z2, Bool.not_true, Option.bind_some, cond_false, granarylaw02_GfThrough_l2, hl2, Option.bind_some, live600]
          rfl
  · simp only [granarylaw02_GfThrough, dF d1, dF d2, dF d3, f1, f2, through_side hl, num_eq, dF n1, Bool.not_false, Option.bind_some, cond_true, cond_false, live600]

end Go.Rf.W.Pure
