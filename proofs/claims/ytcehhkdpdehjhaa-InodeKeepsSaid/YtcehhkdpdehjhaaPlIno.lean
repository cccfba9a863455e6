/-
  Inodes: what the program's functions and the document's have in common.
-/
import Derived.Test.YtcehhkdpdehjhaaInoF0
import Derived.Test.YtcehhkdpdehjhaaPlBase
set_option linter.unusedVariables false
set_option maxRecDepth 10000
namespace Go.Rf.W
open Go Go.Rf

theorem ino_check_eq (x) : inode_Check x = granaryref12_Check x := by
  unfold inode_Check granaryref12_Check inode_kind
  generalize decide (x.1 = (0 : Int)) = b1
  generalize decide (x.2.1 = (0 : Int)) = b2
  generalize decide (x.2.2.1 = (1 : Int)) = b3
  generalize decide (x.2.2.1 = (2 : Int)) = b4
  generalize decide (x.2.2.1 = (5 : Int)) = b5
  generalize decide ((4095 : Int) < x.2.2.2.1) = b6
  generalize decide ((32000 : Int) < x.2.2.2.2.1) = b7
  generalize decide ((255 : Int) < (((List.length x.2.2.2.2.2.2.2.2.2.2.2.2.2) : Nat) : Int)) = b8
  generalize decide ((1048576 : Int) < x.2.2.2.2.2.2.2.1) = b9
  generalize decide (x.2.2.2.2.2.2.2.2.2.2.2.2.2 = ([] : List UInt8)) = b10
  generalize (decide (x.2.2.2.2.2.2.2.1 = (wrapF .u64 (((List.length x.2.2.2.2.2.2.2.2.2.2.2.2.2) : Nat) : Int)))) = b11
  generalize (decide (x.2.2.2.2.2.2.2.2.2.2.2.2.1 = (0 : Int))) = b12
  generalize decide (x.2.2.2.2.2.2.2.2.1 = (0 : Int)) = b13
  clear x
  revert b1 b2 b3 b4 b5 b6 b7 b8 b9 b10 b11 b12 b13
  decide +kernel

theorem ino_check_total (x) : ∃ e, inode_Check x = some e := by
  unfold inode_Check inode_kind
  generalize decide (x.1 = (0 : Int)) = b1
  generalize decide (x.2.1 = (0 : Int)) = b2
  generalize decide (x.2.2.1 = (1 : Int)) = b3
  generalize decide (x.2.2.1 = (2 : Int)) = b4
  generalize decide (x.2.2.1 = (5 : Int)) = b5
  generalize decide ((4095 : Int) < x.2.2.2.1) = b6
  generalize decide ((32000 : Int) < x.2.2.2.2.1) = b7
  generalize decide ((255 : Int) < (((List.length x.2.2.2.2.2.2.2.2.2.2.2.2.2) : Nat) : Int)) = b8
  generalize decide ((1048576 : Int) < x.2.2.2.2.2.2.2.1) = b9
  generalize decide (x.2.2.2.2.2.2.2.2.2.2.2.2.2 = ([] : List UInt8)) = b10
  generalize (decide (x.2.2.2.2.2.2.2.1 = (wrapF .u64 (((List.length x.2.2.2.2.2.2.2.2.2.2.2.2.2) : Nat) : Int)))) = b11
  generalize (decide (x.2.2.2.2.2.2.2.2.2.2.2.2.1 = (0 : Int))) = b12
  generalize decide (x.2.2.2.2.2.2.2.2.1 = (0 : Int)) = b13
  clear x
  refine Option.isSome_iff_exists.1 ?_
  revert b1 b2 b3 b4 b5 b6 b7 b8 b9 b10 b11 b12 b13
  decide +kernel

theorem ino_long_total (x) : ∃ b, granarylaw12_long x = some b := ⟨_, rfl⟩

theorem and4095 {m : Nat} (h : m < 4294967296) : andF .u32 (m : Int) 4095 = Int.tmod (m : Int) 4096 := by
  have h1 := andF_nat .u32 (a := m) (b := 4095) (by rw [two_pow_topA]; exact h) (by rw [two_pow_topA]; decide)
  have h2 : m &&& 4095 = m % 4096 := Nat.and_two_pow_sub_one_eq_mod m 12
  rw [h2] at h1
  exact h1

theorem ino_new_eq {x : Int × Int × Int × Int × Int × Int × Int} (hm : ∃ m : Nat, x.2.2.2.1 = m ∧ m < 4294967296) : ∃ r, inode_New x = some r ∧ granaryref12_New x = some r := by
  obtain ⟨m, h1, h2⟩ := hm
  unfold inode_New granaryref12_New
  rw [h1, and4095 h2]
  generalize decide (x.1 = (0 : Int)) = b1
  generalize decide (x.2.1 = (0 : Int)) = b2
  generalize decide (x.2.2.1 = (1 : Int)) = b3
  generalize decide (x.2.2.1 = (2 : Int)) = b4
  cases b1 <;> cases b2 <;> cases b3 <;> cases b4 <;> exact ⟨_, rfl, rfl⟩

theorem ino_attr_eq (x) : ∃ r, inode_Attributes x = some r ∧ granaryref12_Attributes x = some r := by
  unfold inode_Attributes granaryref12_Attributes
  rw [← ino_check_eq]
  obtain ⟨e, he⟩ := ino_check_total (x.1, x.2.1, x.2.2.1, x.2.2.2.1, x.2.2.2.2.1, x.2.2.2.2.2.1, x.2.2.2.2.2.2.1, x.2.2.2.2.2.2.2.1, x.2.2.2.2.2.2.2.2.1, x.2.2.2.2.2.2.2.2.2.1, x.2.2.2.2.2.2.2.2.2.2.1, x.2.2.2.2.2.2.2.2.2.2.2.1, x.2.2.2.2.2.2.2.2.2.2.2.2.1, x.2.2.2.2.2.2.2.2.2.2.2.2.2.1)
  rw [he, Int.mul_comm (384 : Int)]
  generalize decide ((18014398509481984 : Int) < x.2.2.2.2.2.2.2.2.1) = b1
  simp only [Option.bind_some]
  generalize decide (e = (0 : Int)) = b2
  cases b1 <;> cases b2 <;> exact ⟨_, rfl, rfl⟩

theorem ino_live : granarylaw12_live 100 () = some true := by decide +kernel

end Go.Rf.W
