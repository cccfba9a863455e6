/-
  Handles: bytes, and back.
-/
import Derived.Test.YtcehhkdpdehjhaaPlInoOct
set_option linter.unusedVariables false
set_option maxRecDepth 10000
namespace Go.Rf.W
open Go Go.Rf

def hBytes (fs num gen : Nat) : List Int := [71, 82, 78, 49] ++ be 4 fs ++ be 8 num ++ be 4 gen
def PH (fs num gen : Nat) : Int × List Int := cond (decide (num = 0) || decide (gen = 0)) (121, []) (0, hBytes fs num gen)

theorem d0 (n : Nat) : decide ((n : Int) = 0) = decide (n = 0) := decide_eq_decide.2 (by omega)

theorem putH_ok {N fs num gen : Nat} (hN : 20 < N) (h1 : fs < 4294967296) (h3 : gen < 4294967296) : inode_PutHandle N ((fs : Int), (num : Int), (gen : Int)) = some (PH fs num gen) := by
  unfold inode_PutHandle PH
  dsimp only
  rw [d0, d0, wrapF_u64 (by omega) (by omega), wrapF_u64 (by omega) (by omega)]
  have e := put2_ok (N := N) (n := fs) (size := 4) (off := 0) (len := 4) (b := [71, 82, 78, 49]) rfl (by decide) (by omega)
  have e' : octet_Put_v2 N (0, 4, (fs : Int), (4 : Int), ([71, 82, 78, 49] : List Int)) = some ([71, 82, 78, 49] ++ be 4 fs) := e
  have e2 := put1_ok (N := N) (n := num) (size := 8) (b := [71, 82, 78, 49] ++ be 4 fs) (by simp) (by omega)
  have e2' : octet_Put_v1 N ((num : Int), (8 : Int), [71, 82, 78, 49] ++ be 4 fs) = some ([71, 82, 78, 49] ++ be 4 fs ++ be 8 num) := e2
  have e3 := put1_ok (N := N) (n := gen) (size := 4) (b := [71, 82, 78, 49] ++ be 4 fs ++ be 8 num) (by simp) (by omega)
  have e3' : octet_Put_v1 N ((gen : Int), (4 : Int), [71, 82, 78, 49] ++ be 4 fs ++ be 8 num) = some (hBytes fs num gen) := e3
  rw [e', Option.bind_some, e2', Option.bind_some, e3', Option.bind_some]
  cases decide (num = 0) <;> cases decide (gen = 0) <;> rfl

theorem refPutH_ok {fs num gen : Nat} (h1 : fs < 4294967296) (h3 : gen < 4294967296) : granaryref12_PutHandle ((fs : Int), (num : Int), (gen : Int)) = some (PH fs num gen) := by
  unfold granaryref12_PutHandle PH
  dsimp only
  rw [d0, d0]
  have e := four2_ok (n := fs) (off := 0) (len := 4) (b := [71, 82, 78, 49]) rfl (by decide)
  have e' : granaryref12_four_v2 (0, 4, (fs : Int), ([71, 82, 78, 49] : List Int)) = some ([71, 82, 78, 49] ++ be 4 fs) := e
  have e2 := eight1_ok (n := num) (b := [71, 82, 78, 49] ++ be 4 fs) (by simp)
  have e3 := four1_ok (n := gen) (b := [71, 82, 78, 49] ++ be 4 fs ++ be 8 num) (by simp)
  rw [e', Option.bind_some, e2, Option.bind_some, e3, Option.bind_some]
  cases decide (num = 0) <;> cases decide (gen = 0) <;> rfl

def magicB (l : List Int) : Bool := decide ((List.map (fun (n : Int) => UInt8.ofNat n.toNat) (List.take 4 l)) = ([71, 82, 78, 49] : List UInt8))

/-- The handle of bytes. -/
def GH (l : List Int) : Int × Int × Int × Int :=
  cond (decide (l.length = 20) && magicB l)
    (cond (decide (val ((l.drop 8).take 8) = 0) || decide (val ((l.drop 16).take 4) = 0)) (0, 0, 0, 121)
      ((val ((l.drop 4).take 4) : Int), (val ((l.drop 8).take 8) : Int), (val ((l.drop 16).take 4) : Int), 0)) (0, 0, 0, 121)

theorem sub_bytes {l : List Int} (hb : ∀ x ∈ l, 0 ≤ x ∧ x < 256) (i n : Nat) : ∀ x ∈ (l.drop i).take n, 0 ≤ x ∧ x < 256 :=
  fun x hx => hb x (List.mem_of_mem_drop (List.mem_of_mem_take hx))

theorem val4_lt {l : List Int} (hb : ∀ x ∈ l, 0 ≤ x ∧ x < 256) (i : Nat) : val ((l.drop i).take 4) < 4294967296 := by
  have := val_lt (sub_bytes hb i 4) (k := 4) (by simp; omega)
  exact this

theorem w32 {n : Nat} (h : n < 4294967296) : wrapF .u32 (n : Int) = (n : Int) := wrapF_u32 (by omega) (by omega)

theorem getH_ok {N : Nat} {l : List Int} (hN : 20 < N) (hb : ∀ x ∈ l, 0 ≤ x ∧ x < 256) : inode_GetHandle N l = some (GH l) := by
  unfold inode_GetHandle GH
  have e1 : decide (((l.length : Nat) : Int) = 20) = decide (l.length = 20) := decide_eq_decide.2 (by omega)
  rw [e1]
  by_cases h : l.length = 20
  · rw [deT h, deT (p := (4 : Int) ≤ ((l.length : Nat) : Int)) (by omega), Bool.not_true, cond_false, cond_true, List.drop_zero, show decide ((List.map (fun (n : Int) => UInt8.ofNat n.toNat) (List.take 4 l)) = ([71, 82, 78, 49] : List UInt8)) = magicB l from rfl, Option.bind_some]
    cases magicB l with
    | false => rfl
    | true =>
      rw [Bool.not_true, cond_false, deT (p := (8 : Int) ≤ ((l.length : Nat) : Int)) (by omega), deT (p := (16 : Int) ≤ ((l.length : Nat) : Int)) (by omega), deT (p := ((l.length : Nat) : Int) ≤ ((l.length : Nat) : Int)) (by omega)]
      simp only [Bool.and_self, cond_true]
      have h16 : l.length - 16 = 4 := by omega
      rw [h16, get_ok (sub_bytes hb 4 4) (by simp; omega) (by omega), Option.bind_some, get_ok (sub_bytes hb 8 8) (by simp; omega) (by omega), Option.bind_some, get_ok (sub_bytes hb 16 4) (by simp; omega) (by omega), Option.bind_some]
      try dsimp only
      rw [w32 (val4_lt hb 16), w32 (val4_lt hb 4), d0, d0]
      cases decide (val ((l.drop 8).take 8) = 0) <;> cases decide (val ((l.drop 16).take 4) = 0) <;> rfl
  · rw [deF h, Bool.not_false, cond_true, Option.bind_some]
    rfl

theorem refGetH_ok {N : Nat} {l : List Int} (hN : 20 < N) (hb : ∀ x ∈ l, 0 ≤ x ∧ x < 256) : granaryref12_GetHandle N l = some (GH l) := by
  unfold granaryref12_GetHandle GH
  have e1 : decide (((l.length : Nat) : Int) = 20) = decide (l.length = 20) := decide_eq_decide.2 (by omega)
  rw [e1]
  by_cases h : l.length = 20
  · rw [deT h, deT (p := (4 : Int) ≤ ((l.length : Nat) : Int)) (by omega), Bool.not_true, cond_false, cond_true, List.drop_zero, show decide ((List.map (fun (n : Int) => UInt8.ofNat n.toNat) (List.take 4 l)) = ([71, 82, 78, 49] : List UInt8)) = magicB l from rfl, Option.bind_some]
    cases magicB l with
    | false => rfl
    | true =>
      have n1 := number_ok (N := N) hb (at_ := 4) (n := 4) (by omega) (by omega) (by omega) (by omega)
      have n2 := number_ok (N := N) hb (at_ := 8) (n := 8) (by omega) (by omega) (by omega) (by omega)
      have n3 := number_ok (N := N) hb (at_ := 16) (n := 4) (by omega) (by omega) (by omega) (by omega)
      have n1' : granaryref12_number N (l, (4 : Int), (4 : Int)) = _ := n1
      have n2' : granaryref12_number N (l, (8 : Int), (8 : Int)) = _ := n2
      have n3' : granaryref12_number N (l, (16 : Int), (4 : Int)) = _ := n3
      rw [Bool.not_true, cond_false, n1', Option.bind_some, n2', Option.bind_some, n3', Option.bind_some]
      dsimp only
      rw [w32 (val4_lt hb 16), w32 (val4_lt hb 4), d0, d0]
      cases decide (val ((l.drop 8).take 8) = 0) <;> cases decide (val ((l.drop 16).take 4) = 0) <;> rfl
  · rw [deF h, Bool.not_false, cond_true, Option.bind_some]
    rfl

end Go.Rf.W
