/-
  What everybody is granted; less of less: the plain law.
-/
import Derived.Test.YtcehhkdpdehjhaaInoFInodeAccess
import Derived.Test.YtcehhkdpdehjhaaPlInoAccess
import Derived.Test.YtcehhkdpdehjhaaRfC
set_option linter.unusedVariables false
set_option maxRecDepth 10000
namespace Go.Rf.W.Pure
open Go Go.Rf Go.Rf.W

theorem same_loop {N : Nat} (a b y1 y2 y3 y4 y5 y6 y7 y8 y9 y10 y11 y12 y13 y15 : Int) (y14 : List UInt8) (g : List Int) (hl : g.length < 1000000) : ∀ (d f i : Nat), i + d = g.length → d < f →
    loopF (granarylaw12_InodeAccess_b0 N) f (a, b, (i : Int), y1, y2, y3, y4, y5, y6, y7, y8, y9, y10, y11, y12, y13, y14, y15, g, g) = some (.inr (y1, y2, y3, y4, y5, y6, y7, y8, y9, y10, y11, y12, y13, y14, y15, g, g)) := by
  intro d
  induction d with
  | zero =>
    intro f i hi hf
    obtain ⟨f, rfl⟩ : ∃ g, f = g + 1 := ⟨f - 1, by omega⟩
    show granarylaw12_InodeAccess_b0 N _ _ = _
    unfold granarylaw12_InodeAccess_b0
    dsimp only
    rw [deF (by omega), cond_false]
  | succ d ih =>
    intro f i hi hf
    obtain ⟨f, rfl⟩ : ∃ g, f = g + 1 := ⟨f - 1, by omega⟩
    show granarylaw12_InodeAccess_b0 N (loopF (granarylaw12_InodeAccess_b0 N) f) _ = _
    generalize hnx : loopF (granarylaw12_InodeAccess_b0 N) f = nx
    unfold granarylaw12_InodeAccess_b0
    dsimp only
    rw [deT (p := (i : Int) < ((g.length : Nat) : Int)) (by omega), deT (p := (0 : Int) ≤ (i : Int)) (by omega), cond_true, Bool.and_self, cond_true, Int.toNat_natCast, deT (p := i < g.length) (by omega), cond_true, cond_true, deS, Bool.not_true, cond_false, wrapS (by omega), ← hnx]
    exact ih f (i + 1) (by omega) (by omega)

theorem and_u32 {a b : Nat} (ha : a < 4294967296) (hb : b < 4294967296) : andF .u32 (a : Int) (b : Int) = ((a &&& b : Nat) : Int) :=
  andF_nat .u32 (by rw [two_pow_topA]; exact ha) (by rw [two_pow_topA]; exact hb)
theorem and_lt {a b : Nat} (hb : b < 4294967296) : a &&& b < 4294967296 := Nat.lt_of_le_of_lt Nat.and_le_right hb

theorem inodeAccess (x : EKs [(.pair (.pair (.int .u64) (.pair (.int .u32) (.pair (.int .i64) (.pair (.int .u32) (.pair (.int .u32) (.pair (.int .u32) (.pair (.int .u32) (.pair (.int .u64) (.pair (.int .u64) (.pair (.int .u64) (.pair (.int .u64) (.pair (.int .u64) (.pair (.int .u64) (.pair .str .unit)))))))))))))) (.pair (.int .u32) (.pair (.sl (.int .u32)) (.pair (.int .u32) (.pair (.int .u32) .unit)))))]) (hw : wfs [(.pair (.pair (.int .u64) (.pair (.int .u32) (.pair (.int .i64) (.pair (.int .u32) (.pair (.int .u32) (.pair (.int .u32) (.pair (.int .u32) (.pair (.int .u64) (.pair (.int .u64) (.pair (.int .u64) (.pair (.int .u64) (.pair (.int .u64) (.pair (.int .u64) (.pair .str .unit)))))))))))))) (.pair (.int .u32) (.pair (.sl (.int .u32)) (.pair (.int .u32) (.pair (.int .u32) .unit)))))] x) : ∃ N, granarylaw12_InodeAccess N (x.1.1, x.1.2.1, x.1.2.2.1, x.1.2.2.2.1, x.1.2.2.2.2.1, x.1.2.2.2.2.2.1, x.1.2.2.2.2.2.2.1, x.1.2.2.2.2.2.2.2.1, x.1.2.2.2.2.2.2.2.2.1, x.1.2.2.2.2.2.2.2.2.2.1, x.1.2.2.2.2.2.2.2.2.2.2.1, x.1.2.2.2.2.2.2.2.2.2.2.2.1, x.1.2.2.2.2.2.2.2.2.2.2.2.2.1, x.1.2.2.2.2.2.2.2.2.2.2.2.2.2.1, x.2.1, x.2.2.1, x.2.2.2.1, x.2.2.2.2.1) = some true := by
  refine ⟨100, ?_⟩
  obtain ⟨⟨x1, x2, x3, x4, x5, x6, x7, x8, x9, x10, x11, x12, x13, x14, xu⟩, uid, gids, want, part, u⟩ := x
  have hm := wf_u32 hw.1.2.2.2.1
  have hwant := wf_u32 hw.2.2.2.1
  have hpart := wf_u32 hw.2.2.2.2.1
  change ∃ m : Nat, x4 = m ∧ m < 4294967296 at hm
  change ∃ m : Nat, want = m ∧ m < 4294967296 at hwant
  change ∃ m : Nat, part = m ∧ m < 4294967296 at hpart
  obtain ⟨mode, rfl, hm⟩ := hm
  obtain ⟨want, rfl, hwant⟩ := hwant
  obtain ⟨part, rfl, hpart⟩ := hpart
  change List Int at gids
  dsimp only
  unfold granarylaw12_InodeAccess
  dsimp only
  rw [ino_live, show granarylaw12_long (x1, x2, x3, (mode : Int), x5, x6, x7, x8, x9, x10, x11, x12, x13, x14) = some _ from rfl, Option.bind_some, cond_some, Option.bind_some]
  cases hc : cond (decide ((2000 : Int) < ((x14.length : Nat) : Int))) true (decide ((60 : Int) < ((gids.length : Nat) : Int))) with
  | true => rfl
  | false =>
    have hl : gids.length ≤ 60 := by
      cases h1 : decide ((2000 : Int) < ((x14.length : Nat) : Int)) with
      | true => rw [h1] at hc; cases hc
      | false =>
        rw [h1, cond_false] at hc
        have := of_decide_eq_false hc
        omega
    have hfit : fits 4 gids.length = true := by simp [fits]; omega
    rw [cond_false, hfit, cond_true]
    obtain ⟨e, he⟩ := ino_check_total (x1, x2, x3, (mode : Int), x5, x6, x7, x8, x9, x10, x11, x12, x13, x14)
    have he2 := he
    rw [ino_check_eq] at he2
    have hs := fun a b => same_loop (N := 100) a b x1 x2 x3 (mode : Int) x5 x6 x7 x8 x9 x10 x11 x12 x13 uid x14 gids (by omega) gids.length 100 0 (by omega) (by omega)
    have e0 : ((0 : Nat) : Int) = 0 := rfl
    rw [e0] at hs
    rw [access_prog hm (by omega) (by omega) he]
    rw [access_prog hm (by omega) (by omega) he]
    rw [and_u32 hwant hpart]
    obtain ⟨t, ht, ht8⟩ := three_lt (uid := uid) (xuid := x6) (gid := x7) (mode := (mode : Int)) (gids := gids)
    obtain ⟨g1, g2, g3⟩ := grants_out t ht8 (decide (x3 = 2))
    rw [ht, g1]
    obtain ⟨g, hg⟩ : ∃ g : Nat, outR (t : Int) (decide (x3 = 2)) = g := ⟨(outR (t : Int) (decide (x3 = 2))).toNat, by omega⟩
    have hg64 : g < 4294967296 := by omega
    rw [hg, Option.bind_some, Option.bind_some, and_u32 hwant hg64, and_u32 (and_lt hpart) hg64]
    unfold granarylaw12_InodeAccess_l0
    by_cases h0 : e = 0
    · rw [deT h0, Bool.not_true, cond_false, cond_false, Option.bind_some, Option.bind_some, hs, Option.bind_some]
      dsimp only
      rw [access_ref hm (by omega) (by omega) he2, deT h0, Bool.not_true, cond_false, ht, hg, Option.bind_some, and_u32 hg64 hwant, deT (by rw [Nat.and_comm]), cond_true, and_u32 (and_lt hg64) hpart,
        deT (by rw [Nat.and_assoc, Nat.and_assoc, Nat.and_comm part g]), cond_true]
      rfl
    · rw [deF h0, Bool.not_false, cond_true, cond_true, Option.bind_some, Option.bind_some, hs, Option.bind_some]
      dsimp only
      rw [access_ref hm (by omega) (by omega) he2, deF h0, Bool.not_false, cond_true, Option.bind_some, deS, cond_true]
      have h00 : andF .u32 (0 : Int) (part : Int) = 0 := by
        have := and_u32 (a := 0) (b := part) (by omega) hpart
        rw [Nat.zero_and] at this
        exact this
      rw [h00, deS, cond_true]
      rfl

end Go.Rf.W.Pure
