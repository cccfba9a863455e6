/-
  ShaBursts, plain: bits that are turned within 32 neighbouring ones are told.
-/
import Derived.Test.YtokfelhleojnjaaShaFShaBursts
import Derived.Test.YtokfelhleojnjaaPlShaB
import Derived.Test.YtokfelhleojnjaaRfC
set_option linter.unusedVariables false
set_option maxRecDepth 10000
namespace Go.Rf.W.Pure
open Go Go.Rf Go.Rf.W Go.Rf.W.Sha

theorem pow_u8 : ∀ r : Fin 8, shlF .u8 1 ((r.val : Nat) : Int) = ((2 ^ r.val : Nat) : Int) := by decide +kernel

theorem bursts_loop {N : Nat} {p : List Int} (hp : Bt p) (hl : p.length ≤ 9000) {at_ m : Nat} (ha : at_ < 8 * p.length) (hm : m < 4294967296) (hN : 32 < N) :
    granarylaw05_ShaBursts_l0 N (p, (at_ : Int), (m : Int), false, 0, p) = some (ts p m at_ 32, qs p m at_ 32) := by
  have he : ∀ (nx : (List Int) × Int × Int × Bool × Int × (List Int) → Option (Bool × (List Int))) (t : Bool) (q : List Int), granarylaw05_ShaBursts_b0 N nx (p, (at_ : Int), (m : Int), t, ((32 : Nat) : Int), q) = some (t, q) := fun _ _ _ => rfl
  refine loop_iter (b := granarylaw05_ShaBursts_b0 N) (r := (ts p m at_ 32, qs p m at_ 32)) (fun k => (p, (at_ : Int), (m : Int), ts p m at_ k, (k : Int), qs p m at_ k)) 32 (fun k hk nx => ?_) (fun nx => he nx _ _) N hN
  · have hq := qs_length p m at_ k
    have hb := (qs_bt hp m at_ k).get ((at_ + k) / 8)
    have e1 : shrF .u32 (m : Int) ((k : Nat) : Int) = ((m / 2 ^ k : Nat) : Int) := shr32 (by omega)
    have e2 : ∀ z : Nat, z < 4294967296 → andF .u32 (z : Int) 1 = ((z % 2 : Nat) : Int) := fun z hz => by
      have := andF_nat .u32 (a := z) (b := 1) (by rw [two_pow_topA]; exact hz) (by decide)
      rw [show ((1 : Nat) : Int) = 1 from rfl] at this
      rw [this, Nat.and_one_is_mod]
    have hz : m / 2 ^ k < 4294967296 := Nat.lt_of_le_of_lt (Nat.div_le_self _ _) hm
    have e3 : wrapF .i64 ((at_ : Int) + (k : Int)) = ((at_ + k : Nat) : Int) := by rw [wrapF_i64 (by omega) (by omega)]; omega
    have e4 : wrapF .i64 ((8 : Int) * ((p.length : Nat) : Int)) = ((8 * p.length : Nat) : Int) := by rw [wrapF_i64 (by omega) (by omega)]; omega
    have e5 : Int.tdiv ((at_ + k : Nat) : Int) 8 = (((at_ + k) / 8 : Nat) : Int) := rfl
    have e6 : Int.tmod ((at_ + k : Nat) : Int) 8 = (((at_ + k) % 8 : Nat) : Int) := rfl
    have e7 : wrapF .i64 (((at_ + k) / 8 : Nat) : Int) = (((at_ + k) / 8 : Nat) : Int) := wrapF_i64 (by omega) (by omega)
    have e8 : wrapF .u64 (((at_ + k) % 8 : Nat) : Int) = (((at_ + k) % 8 : Nat) : Int) := wrapF_u64 (by omega) (by omega)
    have e9 : shlF .u8 1 (((at_ + k) % 8 : Nat) : Int) = ((2 ^ ((at_ + k) % 8) : Nat) : Int) := pow_u8 ⟨(at_ + k) % 8, by omega⟩
    have e10 : wrapF .u64 ((k : Nat) : Int) = ((k : Nat) : Int) := wrapF_u64 (by omega) (by omega)
    have e11 : wrapF .i64 ((k : Int) + 1) = ((k + 1 : Nat) : Int) := by rw [wrapF_i64 (by omega) (by omega)]; omega
    have e12 : decide (((m / 2 ^ k % 2 : Nat) : Int) = 1) = m.testBit k := by
      rw [Nat.testBit_eq_decide_div_mod_eq]
      by_cases h : m / 2 ^ k % 2 = 1
      · rw [deT (by omega), deT h]
      · rw [deF (by omega), deF h]
    have e13 : decide (((at_ + k : Nat) : Int) < ((8 * p.length : Nat) : Int)) = decide (at_ + k < 8 * p.length) := by
      by_cases h : at_ + k < 8 * p.length
      · rw [deT (by omega), deT h]
      · rw [deF (by omega), deF h]
    have e14 : (cond (m.testBit k) (some (decide (at_ + k < 8 * p.length))) (some false)) = some (hit m at_ p.length k) := by
      unfold hit; cases m.testBit k <;> rfl
    unfold granarylaw05_ShaBursts_b0
    dsimp only
    rw [deT (p := (k : Int) < 32) (by omega), cond_true, e10, deT (p := (0 : Int) ≤ ((k : Nat) : Int)) (by omega), cond_true, e1, e2 _ hz, e12, e3, e4, e13, e14, Option.bind_some, e5, e6, e7, e8, e9, e11]
    show _ = nx (p, (at_ : Int), (m : Int), cond (hit m at_ p.length k) true (ts p m at_ k), ((k + 1 : Nat) : Int), if hit m at_ p.length k then _ else _)
    cases hh : hit m at_ p.length k with
    | false => simp only [cond_false, Option.bind_some]; rfl
    | true =>
      unfold hit at hh
      simp only [Bool.and_eq_true, decide_eq_true_eq] at hh
      rw [deT (p := (0 : Int) ≤ (((at_ + k) / 8 : Nat) : Int)) (by omega), deT (p := (((at_ + k) / 8 : Nat) : Int) < (((qs p m at_ k).length : Nat) : Int)) (by omega), deT (p := (0 : Int) ≤ (((at_ + k) % 8 : Nat) : Int)) (by omega)]
      simp only [Bool.and_self, cond_true, Int.toNat_natCast]
      rw [deT (p := (at_ + k) / 8 < (qs p m at_ k).length) (by omega)]
      simp only [cond_true, Option.bind_some]
      obtain ⟨y, hy⟩ : ∃ y : Nat, (qs p m at_ k).getD ((at_ + k) / 8) 0 = (y : Int) := ⟨((qs p m at_ k).getD ((at_ + k) / 8) 0).toNat, by omega⟩
      rw [show (EK.dflt (.int .u8)) = (0 : Int) from rfl, hy]
      rw [hy] at hb
      rw [xorF_nat .u8 (by rw [two_pow_topA]; show y < 256; omega) (by rw [two_pow_topA]; exact pow_lt8 (by omega)), Int.toNat_natCast]
      rfl
theorem flip_inj {a b : Nat} (h : ((Sha.flip a : Nat) : Int) = ((Sha.flip b : Nat) : Int)) : a = b := by
  have h' : Sha.flip a = Sha.flip b := Int.ofNat_inj.1 h
  unfold Sha.flip at h'
  generalize 4294967295 = c at h'
  have := congrArg (c ^^^ ·) h'
  simpa [← Nat.xor_assoc] using this

theorem burst2 {p : List Int} (hp : Bt p) (m at_ : Nat) : (!(decide (((Sha.flip (crc (Sha.flip 0) (qs p m at_ 32)) : Nat) : Int) = ((Sha.flip (crc (Sha.flip 0) p) : Nat) : Int)))) = ts p m at_ 32 := by
  have hB := burst hp m at_ (x := Sha.flip 0) (flip_lt (by decide))
  have hF : (((Sha.flip (crc (Sha.flip 0) (qs p m at_ 32)) : Nat) : Int) = ((Sha.flip (crc (Sha.flip 0) p) : Nat) : Int)) ↔ ts p m at_ 32 = false := by
    rw [← hB]
    exact ⟨flip_inj, fun h => by rw [h]⟩
  cases ht : ts p m at_ 32 with
  | false => rw [deT (hF.2 ht)]; rfl
  | true => rw [deF (fun h => by rw [hF.1 h] at ht; cases ht)]; rfl

theorem shaBursts (x : EKs [(.sl (.int .u8)), (.int .i64), (.int .u32)]) (hw : wfs [(.sl (.int .u8)), (.int .i64), (.int .u32)] x) : ∃ N, granarylaw05_ShaBursts N (x.1, x.2.1, x.2.2) = some true := by
  obtain ⟨p, a, c⟩ := x
  obtain ⟨h1, h2, h3⟩ := hw
  have hb : Bt p := wf_bytes h1
  have ha := wf_i64 h2
  obtain ⟨m, e, hm⟩ := wf_u32 h3
  dsimp only at e ha
  subst e
  refine ⟨20000, ?_⟩
  unfold granarylaw05_ShaBursts
  dsimp only
  have hl := live_ok (N := 20000) (by omega)
  have hlen : ((List.length p : Nat) : Int) ≤ 9000 → wrapF .i64 ((8 : Int) * ((List.length p : Nat) : Int)) = ((8 * List.length p : Nat) : Int) := fun h => by rw [wrapF_i64 (by omega) (by omega)]; omega
  by_cases h : 9000 < List.length p
  · rw [deT (p := (9000 : Int) < ((List.length p : Nat) : Int)) (by omega), cond_true, Option.bind_some, cond_true, hl]; rfl
  rw [deF (p := (9000 : Int) < ((List.length p : Nat) : Int)) (by omega), cond_false, hlen (by omega)]
  by_cases h0 : List.length p = 0
  · rw [deT (p := ((List.length p : Nat) : Int) = 0) (by omega), cond_true, Option.bind_some, cond_true, hl]; rfl
  rw [deF (p := ((List.length p : Nat) : Int) = 0) (by omega), cond_false]
  by_cases ha0 : a < 0
  · rw [deT ha0, cond_true, Option.bind_some, cond_true, hl]; rfl
  rw [deF ha0, cond_false, Option.bind_some]
  by_cases ha1 : ((8 * List.length p : Nat) : Int) ≤ a
  · rw [deT ha1, cond_true, hl]; rfl
  rw [deF ha1, cond_false, fits1 (by omega), cond_true]
  have ha2 : (0 : Int) ≤ a := Int.not_lt.1 ha0
  obtain ⟨at_, rfl⟩ : ∃ n : Nat, a = (n : Int) := ⟨Int.toNat a, (Int.toNat_of_nonneg ha2).symm⟩
  rw [bursts_loop hb (by omega) (by omega) hm (by omega), Option.bind_some]
  dsimp only
  rw [Crc_ok (qs_bt hb m at_ 32) (by rw [qs_length]; omega) (by rw [qs_length]; omega), Option.bind_some, Crc1_ok hb (by omega) (by omega), Option.bind_some]
  rw [burst2 hb, beS, cond_true, hl]
  rfl

end Go.Rf.W.Pure
