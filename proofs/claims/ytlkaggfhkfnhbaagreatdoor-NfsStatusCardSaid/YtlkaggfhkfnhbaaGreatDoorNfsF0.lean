/-
  The printed functions: plain data in, plain data out; none: beyond the number of rounds N, or where Go would panic.
-/
import Derived.Test.YtlkaggfhkfnhbaaGreatDoorRfA
set_option linter.unusedVariables false
set_option maxRecDepth 100000
namespace Go.Rf.W
open Go Go.Rf
noncomputable section
abbrev Ty1 : Type := Bool × (List UInt8) × Int × Int × Int × Int × Int × Int × Int × Bool × Int × Int × Int × Int × Int × (List Int) × Int × Int × (List UInt8) × Int × (List Int)
abbrev Ty2 : Type := Bool × Int × Int × Int × Int × Int × Int × Int × Int × Int × Int × Int × (List Int)
abbrev Ty3 : Type := Bool × (List UInt8) × Int × Int × Int × Int × Int × Int × Int × Bool × Int × Int × Int × Int × Int × Int × Int × (List UInt8) × Int × Int × Int × (List Int)
abbrev Ty4 : Type := Bool × (List UInt8) × Int × Int × Int × Int × Int × Int × Int × Bool × Int × Int × Int × Int × Int × Int × Int × (List UInt8) × Int × Int × Int × (List Int) × (List Int)
abbrev Ty5 : Type := Bool × Int × Int × Int × Int × Int × Int × Int × Bool × Int × Int × Int × Int × (List Int)
abbrev Ty6 : Type := Bool × Bool × Int × Int × Int × Int × Int × Int × Int × Int × Int × Int × Int × Int × Int × (List Int)
abbrev Ty7 : Type := Bool × Bool × Int × Int × Int × Int × Int × Int × Int × Int × Int × Int × Int × Int × Bool × (List Int) × Int × (List Int)
abbrev Ty8 : Type := Bool × Int × Int × Bool × Int × Int × Int × Int × Int × Int × Int × Int × Int × Int × Int × Int × Bool × Int × Int × Int × Int × Int × Int × Int × Int × Int × Int × Int × Int × Bool × Int × Int × Int × Bool × Int × Int × Int × Int × Int × Int × Int × Int × Int × Int × Int × Int × Bool × Int × Int × Int × Bool × Int × Int × Int × Int × Int × Int × Int × Int × Int × Int × Int × Int × Bool × (List Int) × Int × (List UInt8) × Int × Bool × (List Int) × Int × Int × (List ((List UInt8) × (Int × (Int × Unit)))) × Int × Int × Int × Int × Int × Int × Int × Int × Int × Int × Int × Int × Int × Int × Int × Int × Int × Int × Int × Bool × Bool × Bool × Bool × Int × (List Int)
abbrev Ty9 : Type := Bool × Bool × Int × Int × Int × Bool × Int × Int × Int × Int × Int × Int × Int × Int × Int × Int × Int × Int × Int × (List Int)
abbrev Ty10 : Type := Bool × Bool × Int × Int × Int × Int × Int × Int × Int × Int × Int × Int × Int × Int × Bool × Int × Int × Int × Int × Int × Int × Int × Int × Int × Int × Int × Int × Bool × (List Int) × Int × (List Int)
abbrev Ty11 : Type := Bool × Bool × Int × Int × Int × Int × Int × Int × Int × Int × Int × Int × Int × Int × Int × Int × Int × (List Int)
abbrev Ty12 : Type := Bool × Bool × Int × Int × Int × Int × Int × Int × Int × Int × Int × Int × Int × Int × Bool × Int × Int × Int × (List Int) × (List Int)
abbrev Ty13 : Type := Bool × Int × Int × Bool × Int × Int × Int × Int × Int × Int × Int × Int × Int × Int × Int × Int × Bool × Int × Int × Int × Int × Int × Int × Int × Int × Int × Int × Int × Int × Bool × Int × Int × Int × Bool × Int × Int × Int × Int × Int × Int × Int × Int × Int × Int × Int × Int × Bool × Int × Int × Int × Bool × Int × Int × Int × Int × Int × Int × Int × Int × Int × Int × Int × Int × Bool × Int × (List UInt8) × Int × Bool × Int × Int × Int × Int × Int × Int × Int × Int × Int × Int × Int × Int × Int × Int × Int × Int × Int × Int × Int × Int × Int × Bool × Bool × Bool × Bool × Int × Int × Int × (List Int) × (List Int)
abbrev Ty14 : Type := Bool × Int × Int × Bool × Int × Int × Int × Int × Int × Int × Int × Int × Int × Int × Int × Int × Bool × Int × Int × Int × Int × Int × Int × Int × Int × Int × Int × Int × Int × Bool × Int × Int × Int × Bool × Int × Int × Int × Int × Int × Int × Int × Int × Int × Int × Int × Int × Bool × Int × Int × Int × Bool × Int × Int × Int × Int × Int × Int × Int × Int × Int × Int × Int × Int × Bool × Int × (List UInt8) × Int × Bool × Int × Int × Int × Int × Int × Int × Int × Int × Int × Int × Int × Int × Int × Int × Int × Int × Int × Int × Int × Int × Int × Bool × Bool × Bool × Bool × Int × Int × Int × (List Int)
abbrev Ty15 : Type := Bool × Bool × Int × Int × Int × Bool × Int × Int × Int × Int × Int × Int × Int × Int × Int × Int × Int × Int × Int × Int × Int × (List Int)
abbrev Ty16 : Type := Bool × Bool × Int × Int × Int × Int × Int × Int × Int × Int × Int × Int × Int × Int × Bool × Int × Int × Int × Int × Int × Int × Int × Int × Int × Int × Int × Int × Bool × Int × Int × Int × (List Int)
abbrev Ty17 : Type := Bool × Bool × Int × Int × Int × Int × Int × Int × Int × Int × Int × Int × Int × Int × Bool × Int × Int × Int × Int × Int × Int × Int × Int × Int × Int × Int × Int × Bool × Int × Int × Int × (List Int) × (List Int)
abbrev Ty18 : Type := Int × Bool × Int × (List Int) × (List UInt8) × (List Int) × (List UInt8) × Int × Int × Int × Int × Int × Int × Int × Bool × Int × Int × Int × Int × Int × (List Int) × Int × Int × (List UInt8) × Int × Int × (List Int)
abbrev Ty19 : Type := (List UInt8) × Int × Int × Bool × Int × (List Int) × (List UInt8) × (List Int) × (List UInt8) × Int × Int × Int × Int × Int × Int × Int × Bool × Int × Int × Int × Int × Int × (List Int) × Int × Int × (List UInt8) × Int × Int × (List Int)
abbrev Ty20 : Type := (List Int) × Int × Bool × Int × (List UInt8) × (List UInt8) × Int × Int × Int × Int × Int × Int × Int × Bool × Int × Int × Int × Int × Int × Int × Int × (List UInt8) × Int × Int × (List Int) × (List Int) × (List Int)
abbrev Ty21 : Type := (List UInt8) × Int × (List Int) × Int × Bool × Int × (List UInt8) × (List UInt8) × Int × Int × Int × Int × Int × Int × Int × Bool × Int × Int × Int × Int × Int × Int × Int × (List UInt8) × Int × Int × (List Int) × (List Int) × (List Int)
abbrev Ty22 : Type := Int × Int × Int × Bool × Int × Int × Int × Int × Int × Int × Int × Int × Int × Int × Int × Int × Bool × Int × Int × Int × Int × Int × Int × Int × Int × Int × Int × Int × Int × Bool × Int × Int × Int × Bool × Int × Int × Int × Int × Int × Int × Int × Int × Int × Int × Int × Int × Bool × Int × Int × Int × Bool × Int × Int × Int × Int × Int × Int × Int × Int × Int × Int × Int × Int × Bool × (List Int) × Int × (List UInt8) × Int × Bool × (List Int) × Int × Int × (List ((List UInt8) × (Int × (Int × Unit))))
abbrev Ty23 : Type := Int × Int × Int × Int × Bool × Int × Int × Int × Int × Int × Int × Int × Int × Int × Int × Int × Int × Bool × Int × Int × Int × Int × Int × Int × Int × Int × Int × Int × Int × Int × Bool × Int × Int × Int × Bool × Int × Int × Int × Int × Int × Int × Int × Int × Int × Int × Int × Int × Bool × Int × Int × Int × Bool × Int × Int × Int × Int × Int × Int × Int × Int × Int × Int × Int × Int × Bool × (List Int) × Int × (List UInt8) × Int × Bool × (List Int) × Int × Int × (List ((List UInt8) × (Int × (Int × Unit))))
abbrev Ty24 : Type := Int × Bool × Int × Int × Bool × Int × Int × Int × Int × Int × Int × Int × Int × Int × Int × Int × Int × Bool × Int × Int × Int × Int × Int × Int × Int × Int × Int × Int × Int × Int × Bool × Int × Int × Int × Bool × Int × Int × Int × Int × Int × Int × Int × Int × Int × Int × Int × Int × Bool × Int × Int × Int × Bool × Int × Int × Int × Int × Int × Int × Int × Int × Int × Int × Int × Int × Bool × (List Int) × Int × (List UInt8) × Int × Bool × (List Int) × Int × Int × (List ((List UInt8) × (Int × (Int × Unit)))) × (List Int)
abbrev Ty25 : Type := Int × Int × Int × Bool × Int × Int × Bool × Int × Int × Int × Int × Int × Int × Int × Int × Int × Int × Int × Int × Bool × Int × Int × Int × Int × Int × Int × Int × Int × Int × Int × Int × Int × Bool × Int × Int × Int × Bool × Int × Int × Int × Int × Int × Int × Int × Int × Int × Int × Int × Int × Bool × Int × Int × Int × Bool × Int × Int × Int × Int × Int × Int × Int × Int × Int × Int × Int × Int × Bool × (List Int) × Int × (List UInt8) × Int × Bool × (List Int) × Int × Int × (List Int) × (List ((List UInt8) × (Int × (Int × Unit))))
abbrev Ty26 : Type := Int × Bool × Int × Int × Bool × Int × Int × Int × Int × Int × Int × Int × Int × Int × Int × Int × Int × Bool × Int × Int × Int × Int × Int × Int × Int × Int × Int × Int × Int × Int × Bool × Int × Int × Int × Bool × Int × Int × Int × Int × Int × Int × Int × Int × Int × Int × Int × Int × Bool × Int × Int × Int × Bool × Int × Int × Int × Int × Int × Int × Int × Int × Int × Int × Int × Int × Bool × (List Int) × Int × (List UInt8) × Int × Bool × (List Int) × Int × Int × Int × Int × Int × Int × Int × Int × Int × Int × Int × Int × Int × Int × Int × Int × Int × Int × Int × Int × Int × Bool × Bool × Bool × Bool × (List ((List UInt8) × (Int × (Int × Unit)))) × (List Int)
abbrev Ty27 : Type := (List UInt8) × Int × Int × Bool × Int × Int × Bool × Int × Int × Int × Int × Int × Int × Int × Int × Int × Int × Int × Int × Bool × Int × Int × Int × Int × Int × Int × Int × Int × Int × Int × Int × Int × Bool × Int × Int × Int × Bool × Int × Int × Int × Int × Int × Int × Int × Int × Int × Int × Int × Int × Bool × Int × Int × Int × Bool × Int × Int × Int × Int × Int × Int × Int × Int × Int × Int × Int × Int × Bool × (List Int) × Int × (List UInt8) × Int × Bool × (List Int) × Int × Int × Int × Int × Int × Int × Int × Int × Int × Int × Int × Int × Int × Int × Int × Int × Int × Int × Int × Int × Int × Bool × Bool × Bool × Bool × (List ((List UInt8) × (Int × (Int × Unit)))) × (List Int)
abbrev Ty28 : Type := (List Int) × Int × Bool × Int × Int × Bool × Int × Int × Int × Int × Int × Int × Int × Int × Int × Int × Int × Int × Bool × Int × Int × Int × Int × Int × Int × Int × Int × Int × Int × Int × Int × Bool × Int × Int × Int × Bool × Int × Int × Int × Int × Int × Int × Int × Int × Int × Int × Int × Int × Bool × Int × Int × Int × Bool × Int × Int × Int × Int × Int × Int × Int × Int × Int × Int × Int × Int × Bool × Int × (List UInt8) × Int × Bool × Int × Int × (List ((List UInt8) × (Int × (Int × Unit))))
abbrev Ty29 : Type := Int × (List Int) × Int × Bool × Int × Int × Bool × Int × Int × Int × Int × Int × Int × Int × Int × Int × Int × Int × Int × Bool × Int × Int × Int × Int × Int × Int × Int × Int × Int × Int × Int × Int × Bool × Int × Int × Int × Bool × Int × Int × Int × Int × Int × Int × Int × Int × Int × Int × Int × Int × Bool × Int × Int × Int × Bool × Int × Int × Int × Int × Int × Int × Int × Int × Int × Int × Int × Int × Bool × Int × (List UInt8) × Int × Bool × Int × Int × (List ((List UInt8) × (Int × (Int × Unit))))
abbrev Ty30 : Type := Int × Int × (List Int) × Int × Bool × Int × Int × Bool × Int × Int × Int × Int × Int × Int × Int × Int × Int × Int × Int × Int × Bool × Int × Int × Int × Int × Int × Int × Int × Int × Int × Int × Int × Int × Bool × Int × Int × Int × Bool × Int × Int × Int × Int × Int × Int × Int × Int × Int × Int × Int × Int × Bool × Int × Int × Int × Bool × Int × Int × Int × Int × Int × Int × Int × Int × Int × Int × Int × Int × Bool × Int × (List UInt8) × Int × Bool × Int × Int × (List ((List UInt8) × (Int × (Int × Unit))))
abbrev Ty31 : Type := (List Int) × Int × Bool × Int × Int × Bool × Int × Int × Int × Int × Int × Int × Int × Int × Int × Int × Int × Int × Bool × Int × Int × Int × Int × Int × Int × Int × Int × Int × Int × Int × Int × Bool × Int × Int × Int × Bool × Int × Int × Int × Int × Int × Int × Int × Int × Int × Int × Int × Int × Bool × Int × Int × Int × Bool × Int × Int × Int × Int × Int × Int × Int × Int × Int × Int × Int × Int × Bool × Int × (List UInt8) × Int × Bool × Int × Int × Int × Int × Int × Int × Int × Int × Int × Int × Int × Int × Int × Int × Int × Int × Int × Int × Int × Int × Int × Bool × Bool × Bool × Bool × (List Int) × (List Int) × (List ((List UInt8) × (Int × (Int × Unit))))
abbrev Ty32 : Type := (List UInt8) × Int × (List Int) × Int × Bool × Int × Int × Bool × Int × Int × Int × Int × Int × Int × Int × Int × Int × Int × Int × Int × Bool × Int × Int × Int × Int × Int × Int × Int × Int × Int × Int × Int × Int × Bool × Int × Int × Int × Bool × Int × Int × Int × Int × Int × Int × Int × Int × Int × Int × Int × Int × Bool × Int × Int × Int × Bool × Int × Int × Int × Int × Int × Int × Int × Int × Int × Int × Int × Int × Bool × Int × (List UInt8) × Int × Bool × Int × Int × Int × Int × Int × Int × Int × Int × Int × Int × Int × Int × Int × Int × Int × Int × Int × Int × Int × Int × Int × Bool × Bool × Bool × Bool × (List Int) × (List Int) × (List ((List UInt8) × (Int × (Int × Unit))))
abbrev Ty33 : Type := Int × Int × Bool × Int × Int × Int × Int × Int × Int × Int × Int × Int × Int × Int × Int × Bool × Int × Int × Int × Int × Int × Int × Int × Int × Int × Int × Int × Int × Bool × Int × Int × Int × Bool × Int × Int × Int × Int × Int × Int × Int × Int × Int × Int × Int × Int × Bool × Int × Int × Int × Bool × Int × Int × Int × Int × Int × Int × Int × Int × Int × Int × Int × Int × Bool × (List Int) × Int × (List UInt8) × Int × Bool × (List Int) × Int × Int × (List ((List UInt8) × (Int × (Int × Unit)))) × Int × Int × Bool × Int × Int × Int × Int × Int × Int × Int × Int × Int × Int × Int × Int × Bool × Int × Int × Int × Int × Int × Int × Int × Int × Int × Int × Int × Int × Bool × Int × Int × Int × Bool × Int × Int × Int × Int × Int × Int × Int × Int × Int × Int × Int × Int × Bool × Int × Int × Int × Bool × Int × Int × Int × Int × Int × Int × Int × Int × Int × Int × Int × Int × Bool × (List Int) × Int × (List UInt8) × Int × Bool × (List Int) × Int × Int × (List ((List UInt8) × (Int × (Int × Unit))))
abbrev Ty34 : Type := Int × Int × Int × Bool × Int × Int × Int × Int × Int × Int × Int × Int × Int × Int × Int × Int × Bool × Int × Int × Int × Int × Int × Int × Int × Int × Int × Int × Int × Int × Bool × Int × Int × Int × Bool × Int × Int × Int × Int × Int × Int × Int × Int × Int × Int × Int × Int × Bool × Int × Int × Int × Bool × Int × Int × Int × Int × Int × Int × Int × Int × Int × Int × Int × Int × Bool × (List Int) × Int × (List UInt8) × Int × Bool × (List Int) × Int × Int × (List ((List UInt8) × (Int × (Int × Unit)))) × Int × Int × Bool × Int × Int × Int × Int × Int × Int × Int × Int × Int × Int × Int × Int × Bool × Int × Int × Int × Int × Int × Int × Int × Int × Int × Int × Int × Int × Bool × Int × Int × Int × Bool × Int × Int × Int × Int × Int × Int × Int × Int × Int × Int × Int × Int × Bool × Int × Int × Int × Bool × Int × Int × Int × Int × Int × Int × Int × Int × Int × Int × Int × Int × Bool × (List Int) × Int × (List UInt8) × Int × Bool × (List Int) × Int × Int × (List ((List UInt8) × (Int × (Int × Unit))))
def nfs_Known (x : Int) : Option (Bool) :=
  (Option.bind
  (cond (decide (x ≤ (21 : Int)))
  (cond (!(decide (x = (11 : Int))))
  (some (!(decide (x = (17 : Int)))))
  (some false))
  (some false))
  fun a =>
  (some a))
def xdr_NewWriter (x : Unit) : Option (Unit) :=
  (some ())
def xdr_Writer_bad (x : Int) : Option (Bool × Int) :=
  (some ((!(decide (x = (0 : Int)))), x))
abbrev Ty35 : Type := Int → Option (Bool × Int)
def xdr_Writer_fits_a (N : Nat) (f0 : Ty35) (x : Int × Int × Int) : Option (Bool × Int) :=
  (Option.bind (f0 x.2.2) fun a =>
  (cond a.1
  (some (false, a.2))
  (Option.bind
  (cond (decide (x.2.1 < x.1))
  (some (1 : Int))
  (some a.2))
  fun b =>
  (some ((decide (x.1 ≤ x.2.1)), b)))))
def xdr_Writer_fits (x : Int × Int × Int) : Option (Bool × Int) := xdr_Writer_fits_a 0 xdr_Writer_bad x
def octet_Lay_b0 (N : Nat) (next : Nat × Nat × Int × Int × (List Int) → Option (((List Int)))) (x : Nat × Nat × Int × Int × (List Int)) : Option (((List Int))) :=
  (cond (decide ((0 : Int) ≤ x.2.2.2.1))
  (cond ((decide ((0 : Int) ≤ x.2.2.2.1)) && (decide (x.2.2.2.1 < ((x.2.1 : Nat) : Int))))
  ((let a : Nat := ((Int.toNat x.2.2.2.1) + x.1)
  (cond (decide (a < (List.length x.2.2.2.2)))
  ((next (x.1, x.2.1, (shrF .u64 x.2.2.1 (8 : Int)), (wrapF .i64 (x.2.2.2.1 - (1 : Int))), (List.set x.2.2.2.2 a (wrapF .u8 x.2.2.1)))))
  none)))
  none)
  (some x.2.2.2.2))
def octet_Lay_l0 (N : Nat) : Nat × Nat × Int × Int × (List Int) → Option (((List Int))) := loopF (octet_Lay_b0 N) N
def octet_Lay (N : Nat) (x : Nat × Nat × Int × (List Int)) : Option ((List Int)) :=
  (Option.bind (octet_Lay_l0 N (x.1, x.2.1, x.2.2.1, (wrapF .i64 (((x.2.1 : Nat) : Int) - (1 : Int))), x.2.2.2)) fun a =>
  (some a))
abbrev Ty36 : Type := Nat × Nat × Int × (List Int) → Option ((List Int))
def octet_Put_a (N : Nat) (f0 : Ty36) (x : Int × Int) : Option ((List Int)) :=
  (cond (((decide ((0 : Int) ≤ x.2)) && (fits 1 (Int.toNat x.2))) && (fits 1 (List.length (List.replicate (Int.toNat x.2) (EK.dflt (.int .u8))))))
  ((let a : List Int := (List.replicate (Int.toNat x.2) (EK.dflt (.int .u8)))
  (let b : Int := (wrapF .i64 ((((List.length a) : Nat) : Int) - x.2))
  (cond (((decide ((0 : Int) ≤ b)) && (decide (b ≤ (((List.length a) : Nat) : Int)))) && (decide ((((List.length a) : Nat) : Int) ≤ (((List.length a) : Nat) : Int))))
  ((Option.bind (f0 ((Int.toNat b), ((List.length a) - (Int.toNat b)), x.1, a)) fun c =>
  (some c)))
  none))))
  none)
def octet_Put (N : Nat) (x : Int × Int) : Option ((List Int)) := octet_Put_a N (octet_Lay N) x
abbrev Ty37 : Type := Int × Int → Option ((List Int))
def xdr_Writer_Uint_a (N : Nat) (f0 : Ty35) (f1 : Ty37) (x : Int × Int) : Option (Int × (List Int)) :=
  (Option.bind (f0 x.2) fun a =>
  (cond (!a.1)
  (Option.bind (f1 ((wrapF .u64 x.1), (4 : Int))) fun b =>
  (some (a.2, b)))
  (some (a.2, ([] : List Int)))))
def xdr_Writer_Uint (N : Nat) (x : Int × Int) : Option (Int × (List Int)) := xdr_Writer_Uint_a N xdr_Writer_bad (octet_Put N) x
def xdr_Writer_bad_v1 (x : Int × (List Int)) : Option (Bool × Int × (List Int)) :=
  (some ((!(decide (x.1 = (0 : Int)))), x.1, x.2))
def xdr_padding (x : Int) : Option (Int) :=
  (some (Int.tmod (wrapF .i64 ((4 : Int) - (Int.tmod x (4 : Int)))) (4 : Int)))
abbrev Ty38 : Type := Int × (List Int) → Option (Bool × Int × (List Int))
def xdr_Writer_Fixed_a0 (N : Nat) (f0 : Ty38) (f1 : Int → Option (Int)) (next : Int × Int × (List Int) → Option (((List Int)))) (x : Int × Int × (List Int)) : Option (((List Int))) :=
  (cond (decide (x.2.1 < x.1))
  (let a : List Int := ([(0 : Int)] : List Int)
  (cond ((decide (1 ≤ (List.length a))) && (fits 1 ((List.length x.2.2) + (List.length (List.take 1 (List.drop 0 a))))))
  ((next (x.1, (wrapF .i64 (x.2.1 + (1 : Int))), (x.2.2 ++ (List.take 1 (List.drop 0 a))))))
  none))
  (some x.2.2))
def xdr_Writer_Fixed_b0 (N : Nat) (next : Int × Int × (List Int) → Option (((List Int)))) (x : Int × Int × (List Int)) : Option (((List Int))) := xdr_Writer_Fixed_a0 N xdr_Writer_bad_v1 xdr_padding next x
def xdr_Writer_Fixed_l0 (N : Nat) : Int × Int × (List Int) → Option (((List Int))) := loopF (xdr_Writer_Fixed_b0 N) N
def xdr_Writer_Fixed_a (N : Nat) (f0 : Ty38) (f1 : Int → Option (Int)) (x : (List Int) × Int × (List Int)) : Option (Int × (List Int)) :=
  (Option.bind (f0 (x.2.1, x.2.2)) fun a =>
  (cond a.1
  (some (a.2.1, a.2.2))
  (cond (fits 1 ((List.length a.2.2) + (List.length x.1)))
  ((Option.bind (f1 (((List.length x.1) : Nat) : Int)) fun b =>
  (Option.bind (xdr_Writer_Fixed_l0 N (b, (0 : Int), (a.2.2 ++ x.1))) fun c =>
  (some (a.2.1, c)))))
  none)))
def xdr_Writer_Fixed (N : Nat) (x : (List Int) × Int × (List Int)) : Option (Int × (List Int)) := xdr_Writer_Fixed_a N xdr_Writer_bad_v1 xdr_padding x
abbrev Ty39 : Type := Int × Int × Int → Option (Bool × Int)
abbrev Ty40 : Type := Int × Int → Option (Int × (List Int))
abbrev Ty41 : Type := (List Int) × Int × (List Int) → Option (Int × (List Int))
def xdr_Writer_Opaque_a (N : Nat) (f0 : Ty39) (f1 : Ty40) (f2 : Ty41) (x : (List Int) × Int × Int) : Option (Int × (List Int)) :=
  (Option.bind (f0 ((((List.length x.1) : Nat) : Int), x.2.1, x.2.2)) fun a =>
  (cond a.1
  (Option.bind (f1 ((wrapF .u32 (((List.length x.1) : Nat) : Int)), a.2)) fun b =>
  (Option.bind (f2 (x.1, b.1, b.2)) fun c =>
  (some (c.1, c.2))))
  (some (a.2, ([] : List Int)))))
def xdr_Writer_Opaque (N : Nat) (x : (List Int) × Int × Int) : Option (Int × (List Int)) := xdr_Writer_Opaque_a N xdr_Writer_fits (xdr_Writer_Uint N) (xdr_Writer_Fixed N) x
abbrev Ty42 : Type := (List Int) × Int × Int → Option (Int × (List Int))
def nfs_flow_opaque_a (N : Nat) (f0 : Ty42) (x : Int × Bool × (List Int) × Int) : Option (Bool × (List Int) × Int × (List Int)) :=
  (Option.bind (f0 (x.2.2.1, x.1, x.2.2.2)) fun a =>
  (some (x.2.1, x.2.2.1, a.1, a.2)))
def nfs_flow_opaque (N : Nat) (x : Int × Bool × (List Int) × Int) : Option (Bool × (List Int) × Int × (List Int)) := nfs_flow_opaque_a N (xdr_Writer_Opaque N) x
abbrev Ty43 : Type := Int × Bool × (List Int) × Int → Option (Bool × (List Int) × Int × (List Int))
def nfs_flow_handle_a (N : Nat) (f0 : Ty43) (x : Bool × (List Int) × Int) : Option (Bool × (List Int) × Int × (List Int)) :=
  (Option.bind (f0 ((64 : Int), x.1, x.2.1, x.2.2)) fun a =>
  (some (a.1, a.2.1, a.2.2.1, a.2.2.2)))
def nfs_flow_handle (N : Nat) (x : Bool × (List Int) × Int) : Option (Bool × (List Int) × Int × (List Int)) := nfs_flow_handle_a N (nfs_flow_opaque N) x
def octet_Put_v1_a (N : Nat) (f0 : Ty36) (x : Int × Int × (List Int)) : Option ((List Int)) :=
  (cond (((decide ((0 : Int) ≤ x.2.1)) && (fits 1 (Int.toNat x.2.1))) && (fits 1 ((List.length x.2.2) + (List.length (List.replicate (Int.toNat x.2.1) (EK.dflt (.int .u8)))))))
  ((let a : List Int := (x.2.2 ++ (List.replicate (Int.toNat x.2.1) (EK.dflt (.int .u8))))
  (let b : Int := (wrapF .i64 ((((List.length a) : Nat) : Int) - x.2.1))
  (cond (((decide ((0 : Int) ≤ b)) && (decide (b ≤ (((List.length a) : Nat) : Int)))) && (decide ((((List.length a) : Nat) : Int) ≤ (((List.length a) : Nat) : Int))))
  ((Option.bind (f0 ((Int.toNat b), ((List.length a) - (Int.toNat b)), x.1, a)) fun c =>
  (some c)))
  none))))
  none)
def octet_Put_v1 (N : Nat) (x : Int × Int × (List Int)) : Option ((List Int)) := octet_Put_v1_a N (octet_Lay N) x
abbrev Ty44 : Type := Int × Int × (List Int) → Option ((List Int))
def xdr_Writer_Uint_v1_a (N : Nat) (f0 : Ty38) (f1 : Ty44) (x : Int × Int × (List Int)) : Option (Int × (List Int)) :=
  (Option.bind (f0 (x.2.1, x.2.2)) fun a =>
  (cond (!a.1)
  (Option.bind (f1 ((wrapF .u64 x.1), (4 : Int), a.2.2)) fun b =>
  (some (a.2.1, b)))
  (some (a.2.1, a.2.2))))
def xdr_Writer_Uint_v1 (N : Nat) (x : Int × Int × (List Int)) : Option (Int × (List Int)) := xdr_Writer_Uint_v1_a N xdr_Writer_bad_v1 (octet_Put_v1 N) x
abbrev Ty45 : Type := Int × Int × (List Int) → Option (Int × (List Int))
def xdr_Writer_Bool_a (N : Nat) (f0 : Ty45) (x : Bool × Int × (List Int)) : Option (Int × (List Int)) :=
  (cond x.1
  (Option.bind (f0 ((1 : Int), x.2.1, x.2.2)) fun a =>
  (some (a.1, a.2)))
  (Option.bind (f0 ((0 : Int), x.2.1, x.2.2)) fun b =>
  (some (b.1, b.2))))
def xdr_Writer_Bool (N : Nat) (x : Bool × Int × (List Int)) : Option (Int × (List Int)) := xdr_Writer_Bool_a N (xdr_Writer_Uint_v1 N) x
abbrev Ty46 : Type := Bool × Int × (List Int) → Option (Int × (List Int))
def nfs_flow_bool_a (N : Nat) (f0 : Ty46) (x : Bool × Bool × Int × (List Int)) : Option (Bool × Bool × Int × (List Int)) :=
  (Option.bind (f0 (x.2.1, x.2.2.1, x.2.2.2)) fun a =>
  (some (x.1, x.2.1, a.1, a.2)))
def nfs_flow_bool (N : Nat) (x : Bool × Bool × Int × (List Int)) : Option (Bool × Bool × Int × (List Int)) := nfs_flow_bool_a N (xdr_Writer_Bool N) x
abbrev Ty47 : Type := Bool × Bool × Int × (List Int) → Option (Bool × Bool × Int × (List Int))
def nfs_flow_flag_a (N : Nat) (f0 : Ty47) (x : Int × Bool × Int × Int × (List Int)) : Option (Bool × Bool × Int × Int × (List Int)) :=
  (Option.bind (f0 (x.2.1, (!(decide ((andF .i64 x.2.2.1 x.1) = (0 : Int)))), x.2.2.2.1, x.2.2.2.2)) fun a =>
  (Option.bind
  (cond a.2.1
  (some (orF .i64 x.2.2.1 x.1))
  (some x.2.2.1))
  fun b =>
  (some (a.2.1, a.1, b, a.2.2.1, a.2.2.2))))
def nfs_flow_flag (N : Nat) (x : Int × Bool × Int × Int × (List Int)) : Option (Bool × Bool × Int × Int × (List Int)) := nfs_flow_flag_a N (nfs_flow_bool N) x
def nfs_flow_uint_a (N : Nat) (f0 : Ty45) (x : Bool × Int × Int × (List Int)) : Option (Bool × Int × Int × (List Int)) :=
  (Option.bind (f0 (x.2.1, x.2.2.1, x.2.2.2)) fun a =>
  (some (x.1, x.2.1, a.1, a.2)))
def nfs_flow_uint (N : Nat) (x : Bool × Int × Int × (List Int)) : Option (Bool × Int × Int × (List Int)) := nfs_flow_uint_a N (xdr_Writer_Uint_v1 N) x
def xdr_Writer_Hyper_a (N : Nat) (f0 : Ty38) (f1 : Ty44) (x : Int × Int × (List Int)) : Option (Int × (List Int)) :=
  (Option.bind (f0 (x.2.1, x.2.2)) fun a =>
  (cond (!a.1)
  (Option.bind (f1 (x.1, (8 : Int), a.2.2)) fun b =>
  (some (a.2.1, b)))
  (some (a.2.1, a.2.2))))
def xdr_Writer_Hyper (N : Nat) (x : Int × Int × (List Int)) : Option (Int × (List Int)) := xdr_Writer_Hyper_a N xdr_Writer_bad_v1 (octet_Put_v1 N) x
def nfs_flow_hyper_a (N : Nat) (f0 : Ty45) (x : Bool × Int × Int × (List Int)) : Option (Bool × Int × Int × (List Int)) :=
  (Option.bind (f0 (x.2.1, x.2.2.1, x.2.2.2)) fun a =>
  (some (x.1, x.2.1, a.1, a.2)))
def nfs_flow_hyper (N : Nat) (x : Bool × Int × Int × (List Int)) : Option (Bool × Int × Int × (List Int)) := nfs_flow_hyper_a N (xdr_Writer_Hyper N) x
abbrev Ty48 : Type := Bool × Int × Int × (List Int) → Option (Bool × Int × Int × (List Int))
def nfs_flow_enum_a (N : Nat) (f0 : Ty48) (x : Int × Bool × Int × Int × (List Int)) : Option (Bool × Int × Int × (List Int)) :=
  (Option.bind (f0 (x.2.1, x.2.2.1, x.2.2.2.1, x.2.2.2.2)) fun a =>
  (Option.bind
  (cond a.1
  (some true)
  (some (decide (x.1 < a.2.1))))
  fun b =>
  (some (b, a.2.1, a.2.2.1, a.2.2.2))))
def nfs_flow_enum (N : Nat) (x : Int × Bool × Int × Int × (List Int)) : Option (Bool × Int × Int × (List Int)) := nfs_flow_enum_a N (nfs_flow_uint N) x
abbrev Ty49 : Type := Int × Bool × Int × Int × (List Int) → Option (Bool × Int × Int × (List Int))
def nfs_flow_time_a (N : Nat) (f0 : Ty48) (f1 : Ty49) (x : Bool × Int × Int × (List Int)) : Option (Bool × Int × Int × (List Int)) :=
  (Option.bind (f0 (x.1, (wrapF .u32 (wrapF .u64 (Int.tdiv x.2.1 (1000000000 : Int)))), x.2.2.1, x.2.2.2)) fun a =>
  (Option.bind (f1 ((999999999 : Int), a.1, (wrapF .u32 (Int.tmod x.2.1 (1000000000 : Int))), a.2.2.1, a.2.2.2)) fun b =>
  (some (b.1, (wrapF .u64 ((wrapF .u64 ((wrapF .u64 a.2.1) * (1000000000 : Int))) + (wrapF .u64 b.2.1))), b.2.2.1, b.2.2.2))))
def nfs_flow_time (N : Nat) (x : Bool × Int × Int × (List Int)) : Option (Bool × Int × Int × (List Int)) := nfs_flow_time_a N (nfs_flow_uint N) (nfs_flow_enum N) x
def nfs_flow_when_a (N : Nat) (f0 : Ty49) (f1 : Ty48) (x : Int × Int × Bool × Int × Int × Int × (List Int)) : Option (Bool × Int × Int × Int × (List Int)) :=
  (Option.bind
  (cond (!(decide ((andF .i64 x.2.2.2.1 x.2.1) = (0 : Int))))
  (some (2 : Int))
  (cond (!(decide ((andF .i64 x.2.2.2.1 x.1) = (0 : Int))))
  (some (1 : Int))
  (some (0 : Int))))
  fun c =>
  (Option.bind (f0 ((2 : Int), x.2.2.1, c, x.2.2.2.2.2.1, x.2.2.2.2.2.2)) fun a =>
  (cond (decide (a.2.1 = (1 : Int)))
  (some (a.1, (orF .i64 x.2.2.2.1 x.1), x.2.2.2.2.1, a.2.2.1, a.2.2.2))
  (cond (decide (a.2.1 = (2 : Int)))
  (Option.bind (f1 (a.1, x.2.2.2.2.1, a.2.2.1, a.2.2.2)) fun b =>
  (some (b.1, (orF .i64 x.2.2.2.1 x.2.1), b.2.1, b.2.2.1, b.2.2.2)))
  (some (a.1, x.2.2.2.1, x.2.2.2.2.1, a.2.2.1, a.2.2.2))))))
def nfs_flow_when (N : Nat) (x : Int × Int × Bool × Int × Int × Int × (List Int)) : Option (Bool × Int × Int × Int × (List Int)) := nfs_flow_when_a N (nfs_flow_enum N) (nfs_flow_time N) x
abbrev Ty50 : Type := Int × Bool × Int × Int × (List Int) → Option (Bool × Bool × Int × Int × (List Int))
abbrev Ty51 : Type := Int × Int × Bool × Int × Int × Int × (List Int) → Option (Bool × Int × Int × Int × (List Int))
def nfs_flow_set_a (N : Nat) (f0 : Ty50) (f1 : Ty48) (f2 : Ty48) (f3 : Ty51) (x : Bool × Int × Int × Int × Int × Int × Int × Int × Int × (List Int)) : Option (Bool × Int × Int × Int × Int × Int × Int × Int × Int × (List Int)) :=
  (Option.bind (f0 ((1 : Int), x.1, x.2.1, x.2.2.2.2.2.2.2.2.1, x.2.2.2.2.2.2.2.2.2)) fun a =>
  (Option.bind
  (cond a.1
  (Option.bind (f1 (a.2.1, x.2.2.1, a.2.2.2.1, a.2.2.2.2)) fun g =>
  (some (g.1, g.2.1, g.2.2.1, g.2.2.2)))
  (some (a.2.1, x.2.2.1, a.2.2.2.1, a.2.2.2.2)))
  fun h =>
  (Option.bind (f0 ((2 : Int), h.1, a.2.2.1, h.2.2.1, h.2.2.2)) fun b =>
  (Option.bind
  (cond b.1
  (Option.bind (f1 (b.2.1, x.2.2.2.1, b.2.2.2.1, b.2.2.2.2)) fun i =>
  (some (i.1, i.2.1, i.2.2.1, i.2.2.2)))
  (some (b.2.1, x.2.2.2.1, b.2.2.2.1, b.2.2.2.2)))
  fun j =>
  (Option.bind (f0 ((4 : Int), j.1, b.2.2.1, j.2.2.1, j.2.2.2)) fun c =>
  (Option.bind
  (cond c.1
  (Option.bind (f1 (c.2.1, x.2.2.2.2.1, c.2.2.2.1, c.2.2.2.2)) fun k =>
  (some (k.1, k.2.1, k.2.2.1, k.2.2.2)))
  (some (c.2.1, x.2.2.2.2.1, c.2.2.2.1, c.2.2.2.2)))
  fun l =>
  (Option.bind (f0 ((8 : Int), l.1, c.2.2.1, l.2.2.1, l.2.2.2)) fun d =>
  (Option.bind
  (cond d.1
  (Option.bind (f2 (d.2.1, x.2.2.2.2.2.1, d.2.2.2.1, d.2.2.2.2)) fun m =>
  (some (m.1, m.2.1, m.2.2.1, m.2.2.2)))
  (some (d.2.1, x.2.2.2.2.2.1, d.2.2.2.1, d.2.2.2.2)))
  fun n =>
  (Option.bind (f3 ((64 : Int), (16 : Int), n.1, d.2.2.1, x.2.2.2.2.2.2.1, n.2.2.1, n.2.2.2)) fun e =>
  (Option.bind (f3 ((128 : Int), (32 : Int), e.1, e.2.1, x.2.2.2.2.2.2.2.1, e.2.2.2.1, e.2.2.2.2)) fun f =>
  (some (f.1, f.2.1, h.2.1, j.2.1, l.2.1, n.2.1, e.2.2.1, f.2.2.1, f.2.2.2.1, f.2.2.2.2))))))))))))
def nfs_flow_set (N : Nat) (x : Bool × Int × Int × Int × Int × Int × Int × Int × Int × (List Int)) : Option (Bool × Int × Int × Int × Int × Int × Int × Int × Int × (List Int)) := nfs_flow_set_a N (nfs_flow_flag N) (nfs_flow_uint N) (nfs_flow_hyper N) (nfs_flow_when N) x
def xdr_Writer_fits_v1_a (N : Nat) (f0 : Ty38) (x : Int × Int × Int × (List Int)) : Option (Bool × Int × (List Int)) :=
  (Option.bind (f0 (x.2.2.1, x.2.2.2)) fun a =>
  (cond a.1
  (some (false, a.2.1, a.2.2))
  (Option.bind
  (cond (decide (x.2.1 < x.1))
  (some (1 : Int))
  (some a.2.1))
  fun b =>
  (some ((decide (x.1 ≤ x.2.1)), b, a.2.2)))))
def xdr_Writer_fits_v1 (x : Int × Int × Int × (List Int)) : Option (Bool × Int × (List Int)) := xdr_Writer_fits_v1_a 0 xdr_Writer_bad_v1 x
abbrev Ty52 : Type := Int × Int × Int × (List Int) → Option (Bool × Int × (List Int))
def xdr_Writer_Opaque_v1_a (N : Nat) (f0 : Ty52) (f1 : Ty45) (f2 : Ty41) (x : (List Int) × Int × Int × (List Int)) : Option (Int × (List Int)) :=
  (Option.bind (f0 ((((List.length x.1) : Nat) : Int), x.2.1, x.2.2.1, x.2.2.2)) fun a =>
  (cond a.1
  (Option.bind (f1 ((wrapF .u32 (((List.length x.1) : Nat) : Int)), a.2.1, a.2.2)) fun b =>
  (Option.bind (f2 (x.1, b.1, b.2)) fun c =>
  (some (c.1, c.2))))
  (some (a.2.1, a.2.2))))
def xdr_Writer_Opaque_v1 (N : Nat) (x : (List Int) × Int × Int × (List Int)) : Option (Int × (List Int)) := xdr_Writer_Opaque_v1_a N xdr_Writer_fits_v1 (xdr_Writer_Uint_v1 N) (xdr_Writer_Fixed N) x
abbrev Ty53 : Type := (List Int) × Int × Int × (List Int) → Option (Int × (List Int))
def xdr_Writer_Text_a (N : Nat) (f0 : Ty53) (x : (List UInt8) × Int × Int × (List Int)) : Option (Int × (List Int)) :=
  (Option.bind (f0 ((List.map (fun b => (b.toNat : Int)) x.1), x.2.1, x.2.2.1, x.2.2.2)) fun a =>
  (some (a.1, a.2)))
def xdr_Writer_Text (N : Nat) (x : (List UInt8) × Int × Int × (List Int)) : Option (Int × (List Int)) := xdr_Writer_Text_a N (xdr_Writer_Opaque_v1 N) x
abbrev Ty54 : Type := (List UInt8) × Int × Int × (List Int) → Option (Int × (List Int))
def nfs_flow_text_a (N : Nat) (f0 : Ty54) (x : Int × Bool × (List UInt8) × Int × (List Int)) : Option (Bool × (List UInt8) × Int × (List Int)) :=
  (Option.bind (f0 (x.2.2.1, x.1, x.2.2.2.1, x.2.2.2.2)) fun a =>
  (some (x.2.1, x.2.2.1, a.1, a.2)))
def nfs_flow_text (N : Nat) (x : Int × Bool × (List UInt8) × Int × (List Int)) : Option (Bool × (List UInt8) × Int × (List Int)) := nfs_flow_text_a N (xdr_Writer_Text N) x
abbrev Ty55 : Type := Int × Bool × (List UInt8) × Int × (List Int) → Option (Bool × (List UInt8) × Int × (List Int))
def nfs_flow_name_a (N : Nat) (f0 : Ty55) (x : Bool × (List UInt8) × Int × (List Int)) : Option (Bool × (List UInt8) × Int × (List Int)) :=
  (Option.bind (f0 ((255 : Int), x.1, x.2.1, x.2.2.1, x.2.2.2)) fun a =>
  (some (a.1, a.2.1, a.2.2.1, a.2.2.2)))
def nfs_flow_name (N : Nat) (x : Bool × (List UInt8) × Int × (List Int)) : Option (Bool × (List UInt8) × Int × (List Int)) := nfs_flow_name_a N (nfs_flow_text N) x
def nfs_flow_opaque_v1_a (N : Nat) (f0 : Ty53) (x : Int × Bool × (List Int) × Int × (List Int)) : Option (Bool × (List Int) × Int × (List Int)) :=
  (Option.bind (f0 (x.2.2.1, x.1, x.2.2.2.1, x.2.2.2.2)) fun a =>
  (some (x.2.1, x.2.2.1, a.1, a.2)))
def nfs_flow_opaque_v1 (N : Nat) (x : Int × Bool × (List Int) × Int × (List Int)) : Option (Bool × (List Int) × Int × (List Int)) := nfs_flow_opaque_v1_a N (xdr_Writer_Opaque_v1 N) x
abbrev Ty56 : Type := Int × Bool × (List Int) × Int × (List Int) → Option (Bool × (List Int) × Int × (List Int))
def nfs_flow_handle_v1_a (N : Nat) (f0 : Ty56) (x : Bool × (List Int) × Int × (List Int)) : Option (Bool × (List Int) × Int × (List Int)) :=
  (Option.bind (f0 ((64 : Int), x.1, x.2.1, x.2.2.1, x.2.2.2)) fun a =>
  (some (a.1, a.2.1, a.2.2.1, a.2.2.2)))
def nfs_flow_handle_v1 (N : Nat) (x : Bool × (List Int) × Int × (List Int)) : Option (Bool × (List Int) × Int × (List Int)) := nfs_flow_handle_v1_a N (nfs_flow_opaque_v1 N) x
abbrev Ty57 : Type := Bool × (List Int) × Int → Option (Bool × (List Int) × Int × (List Int))
abbrev Ty58 : Type := Bool × (List Int) × Int × (List Int) → Option (Bool × (List Int) × Int × (List Int))
abbrev Ty59 : Type := Bool × Int × Int × Int × Int × Int × Int × Int × Int × (List Int) → Option (Bool × Int × Int × Int × Int × Int × Int × Int × Int × (List Int))
abbrev Ty60 : Type := Bool × (List UInt8) × Int × (List Int) → Option (Bool × (List UInt8) × Int × (List Int))
abbrev Ty61 : Type := Bool × Int × (List Int) × (List UInt8) × (List Int) × (List UInt8) × Int × Int × Int × Int × Int × Int × Int × Bool × Int × Int × Int × Int × Int × (List Int) × Int × Int × (List UInt8) × Int × Int × Int
abbrev Ty62 : Type := Bool × Int × (List Int) × (List UInt8) × (List Int) × (List UInt8) × Int × Int × Int × Int × Int × Int × Int × Bool × Int × Int × Int × Int × Int × (List Int) × Int × Int × (List UInt8) × Int × Int × Int × (List Int)
def nfs_flow_args_a (N : Nat) (f0 : Ty57) (f1 : Ty58) (f2 : Ty59) (f3 : Ty47) (f4 : Ty48) (f5 : Ty60) (f6 : Ty48) (f7 : Ty48) (f8 : Ty49) (f9 : Ty56) (f10 : Ty55) (x : Ty61) : Option (Ty62) :=
  (un8 x fun aM b aN z an ao e f aP =>
  un8 aP fun g h i j k l d aa aQ =>
  un8 aQ fun ab ac ad ae af n o ap aR =>
  un aR fun aq aO =>
  (cond (decide (b = (0 : Int)))
  (some (aM, b, aN, z, an, ao, e, f, g, h, i, j, k, l, d, aa, ab, ac, ad, ae, af, n, o, ap, aq, aO, ([] : List Int)))
  (Option.bind (f0 (aM, aN, aO)) fun a =>
  (Option.bind
  ((Option.bind
  ((cond (decide (b = (2 : Int)))
  (Option.bind (f2 (a.1, e, f, g, h, i, j, k, a.2.2.1, a.2.2.2)) fun ah =>
  (Option.bind (f3 (ah.1, l, ah.2.2.2.2.2.2.2.2.1, ah.2.2.2.2.2.2.2.2.2)) fun aj =>
  (Option.bind
  (cond aj.2.1
  (Option.bind (f4 (aj.1, d, aj.2.2.1, aj.2.2.2)) fun ar =>
  (some (ar.1, ar.2.1, ar.2.2.1, ar.2.2.2)))
  (some (aj.1, d, aj.2.2.1, aj.2.2.2)))
  fun au =>
  (some (.inr (.inl (au.1, ah.2.1, ah.2.2.1, ah.2.2.2.1, ah.2.2.2.2.1, ah.2.2.2.2.2.1, ah.2.2.2.2.2.2.1, ah.2.2.2.2.2.2.2.1, aj.2.1, au.2.1, au.2.2.1, au.2.2.2)))))))
  (cond (decide (b = (3 : Int)))
  (some (.inl (a.1, e, f, g, h, i, j, k, l, d, a.2.2.1, a.2.2.2)))
  (cond (decide (b = (12 : Int)))
  (some (.inl (a.1, e, f, g, h, i, j, k, l, d, a.2.2.1, a.2.2.2)))
  (cond (decide (b = (13 : Int)))
  (some (.inl (a.1, e, f, g, h, i, j, k, l, d, a.2.2.1, a.2.2.2)))
  (cond (decide (b = (4 : Int)))
  (some (.inr (.inr (.inl (a.1, e, f, g, h, i, j, k, l, d, a.2.2.1, a.2.2.2)))))
  (cond (decide (b = (6 : Int)))
  (some (.inr (.inr (.inr (.inl (a.1, e, f, g, h, i, j, k, l, d, a.2.2.1, a.2.2.2))))))
  (cond (decide (b = (21 : Int)))
  (some (.inr (.inr (.inr (.inl (a.1, e, f, g, h, i, j, k, l, d, a.2.2.1, a.2.2.2))))))
  (cond (decide (b = (7 : Int)))
  (some (.inr (.inr (.inr (.inr (.inl (a.1, e, f, g, h, i, j, k, l, d, a.2.2.1, a.2.2.2)))))))
  (cond (decide (b = (8 : Int)))
  (some (.inr (.inr (.inr (.inr (.inr (.inl (a.1, e, f, g, h, i, j, k, l, d, a.2.2.1, a.2.2.2))))))))
  (cond (decide (b = (10 : Int)))
  (some (.inr (.inr (.inr (.inr (.inr (.inr (.inl (a.1, e, f, g, h, i, j, k, l, d, a.2.2.1, a.2.2.2)))))))))
  (cond (decide (b = (9 : Int)))
  (some (.inr (.inr (.inr (.inr (.inr (.inr (.inl (a.1, e, f, g, h, i, j, k, l, d, a.2.2.1, a.2.2.2)))))))))
  (cond (decide (b = (14 : Int)))
  (some (.inr (.inr (.inr (.inr (.inr (.inr (.inr (.inl (a.1, e, f, g, h, i, j, k, l, d, a.2.2.1, a.2.2.2))))))))))
  (cond (decide (b = (15 : Int)))
  (some (.inr (.inr (.inr (.inr (.inr (.inr (.inr (.inr (.inl (a.1, e, f, g, h, i, j, k, l, d, a.2.2.1, a.2.2.2)))))))))))
  (cond (decide (b = (16 : Int)))
  (some (.inr (.inr (.inr (.inr (.inr (.inr (.inr (.inr (.inr ((a.1, e, f, g, h, i, j, k, l, d, a.2.2.1, a.2.2.2))))))))))))
  (some (.inr (.inl (a.1, e, f, g, h, i, j, k, l, d, a.2.2.1, a.2.2.2)))))))))))))))))) : Option ((Bool × Int × Int × Int × Int × Int × Int × Int × Bool × Int × Int × (List Int)) ⊕ (Bool × Int × Int × Int × Int × Int × Int × Int × Bool × Int × Int × (List Int)) ⊕ (Bool × Int × Int × Int × Int × Int × Int × Int × Bool × Int × Int × (List Int)) ⊕ (Bool × Int × Int × Int × Int × Int × Int × Int × Bool × Int × Int × (List Int)) ⊕ (Bool × Int × Int × Int × Int × Int × Int × Int × Bool × Int × Int × (List Int)) ⊕ (Bool × Int × Int × Int × Int × Int × Int × Int × Bool × Int × Int × (List Int)) ⊕ (Bool × Int × Int × Int × Int × Int × Int × Int × Bool × Int × Int × (List Int)) ⊕ (Bool × Int × Int × Int × Int × Int × Int × Int × Bool × Int × Int × (List Int)) ⊕ (Bool × Int × Int × Int × Int × Int × Int × Int × Bool × Int × Int × (List Int)) ⊕ (Bool × Int × Int × Int × Int × Int × Int × Int × Bool × Int × Int × (List Int))))
  fun aS =>
  (match aS with
  | .inl p =>
  (Option.bind (f5 (p.1, z, p.2.2.2.2.2.2.2.2.2.2.1, p.2.2.2.2.2.2.2.2.2.2.2)) fun av =>
  (some (.inr (.inl (av.1, av.2.1, p.2.1, p.2.2.1, p.2.2.2.1, p.2.2.2.2.1, p.2.2.2.2.2.1, p.2.2.2.2.2.2.1, p.2.2.2.2.2.2.2.1, p.2.2.2.2.2.2.2.2.1, p.2.2.2.2.2.2.2.2.2.1, aa, ab, ac, ad, ae, af, n, o, av.2.2.1, av.2.2.2)))))
  | .inr aT =>
  (match aT with
  | .inl q =>
  (some (.inr (.inl (q.1, z, q.2.1, q.2.2.1, q.2.2.2.1, q.2.2.2.2.1, q.2.2.2.2.2.1, q.2.2.2.2.2.2.1, q.2.2.2.2.2.2.2.1, q.2.2.2.2.2.2.2.2.1, q.2.2.2.2.2.2.2.2.2.1, aa, ab, ac, ad, ae, af, n, o, q.2.2.2.2.2.2.2.2.2.2.1, q.2.2.2.2.2.2.2.2.2.2.2))))
  | .inr aU =>
  (match aU with
  | .inl r =>
  (Option.bind (f6 (r.1, aa, r.2.2.2.2.2.2.2.2.2.2.1, r.2.2.2.2.2.2.2.2.2.2.2)) fun aw =>
  (some (.inr (.inl (aw.1, z, r.2.1, r.2.2.1, r.2.2.2.1, r.2.2.2.2.1, r.2.2.2.2.2.1, r.2.2.2.2.2.2.1, r.2.2.2.2.2.2.2.1, r.2.2.2.2.2.2.2.2.1, r.2.2.2.2.2.2.2.2.2.1, aw.2.1, ab, ac, ad, ae, af, n, o, aw.2.2.1, aw.2.2.2)))))
  | .inr aV =>
  (match aV with
  | .inl s =>
  (Option.bind (f7 (s.1, ab, s.2.2.2.2.2.2.2.2.2.2.1, s.2.2.2.2.2.2.2.2.2.2.2)) fun ax =>
  (Option.bind (f6 (ax.1, ac, ax.2.2.1, ax.2.2.2)) fun ay =>
  (some (.inr (.inl (ay.1, z, s.2.1, s.2.2.1, s.2.2.2.1, s.2.2.2.2.1, s.2.2.2.2.2.1, s.2.2.2.2.2.2.1, s.2.2.2.2.2.2.2.1, s.2.2.2.2.2.2.2.2.1, s.2.2.2.2.2.2.2.2.2.1, aa, ax.2.1, ay.2.1, ad, ae, af, n, o, ay.2.2.1, ay.2.2.2))))))
  | .inr aW =>
  (match aW with
  | .inl t =>
  (Option.bind (f7 (t.1, ab, t.2.2.2.2.2.2.2.2.2.2.1, t.2.2.2.2.2.2.2.2.2.2.2)) fun az =>
  (Option.bind (f6 (az.1, ac, az.2.2.1, az.2.2.2)) fun al =>
  (Option.bind (f8 ((2 : Int), al.1, ad, al.2.2.1, al.2.2.2)) fun aA =>
  (Option.bind (f9 ((2048 : Int), aA.1, ae, aA.2.2.1, aA.2.2.2)) fun am =>
  (Option.bind
  (cond am.1
  (some true)
  (some (!(decide ((wrapF .u64 al.2.1) = (wrapF .u64 (((List.length am.2.1) : Nat) : Int)))))))
  fun aX =>
  (some (.inr (.inl (aX, z, t.2.1, t.2.2.1, t.2.2.2.1, t.2.2.2.2.1, t.2.2.2.2.2.1, t.2.2.2.2.2.2.1, t.2.2.2.2.2.2.2.1, t.2.2.2.2.2.2.2.2.1, t.2.2.2.2.2.2.2.2.2.1, aa, az.2.1, al.2.1, aA.2.1, am.2.1, af, n, o, am.2.2.1, am.2.2.2)))))))))
  | .inr aY =>
  (match aY with
  | .inl c =>
  (Option.bind (f5 (c.1, z, c.2.2.2.2.2.2.2.2.2.2.1, c.2.2.2.2.2.2.2.2.2.2.2)) fun aB =>
  (Option.bind (f8 ((2 : Int), aB.1, af, aB.2.2.1, aB.2.2.2)) fun ak =>
  (Option.bind
  (cond (decide (ak.2.1 = (2 : Int)))
  (Option.bind (f7 (ak.1, n, ak.2.2.1, ak.2.2.2)) fun aC =>
  (some (aC.1, c.2.1, c.2.2.1, c.2.2.2.1, c.2.2.2.2.1, c.2.2.2.2.2.1, c.2.2.2.2.2.2.1, c.2.2.2.2.2.2.2.1, aC.2.1, aC.2.2.1, aC.2.2.2)))
  (Option.bind (f2 (ak.1, c.2.1, c.2.2.1, c.2.2.2.1, c.2.2.2.2.1, c.2.2.2.2.2.1, c.2.2.2.2.2.2.1, c.2.2.2.2.2.2.2.1, ak.2.2.1, ak.2.2.2)) fun ai =>
  (some (ai.1, ai.2.1, ai.2.2.1, ai.2.2.2.1, ai.2.2.2.2.1, ai.2.2.2.2.2.1, ai.2.2.2.2.2.2.1, ai.2.2.2.2.2.2.2.1, n, ai.2.2.2.2.2.2.2.2.1, ai.2.2.2.2.2.2.2.2.2))))
  fun ag =>
  (some (.inr (.inl (ag.1, aB.2.1, ag.2.1, ag.2.2.1, ag.2.2.2.1, ag.2.2.2.2.1, ag.2.2.2.2.2.1, ag.2.2.2.2.2.2.1, ag.2.2.2.2.2.2.2.1, c.2.2.2.2.2.2.2.2.1, c.2.2.2.2.2.2.2.2.2.1, aa, ab, ac, ad, ae, ak.2.1, ag.2.2.2.2.2.2.2.2.1, o, ag.2.2.2.2.2.2.2.2.2.1, ag.2.2.2.2.2.2.2.2.2.2)))))))
  | .inr aZ =>
  (match aZ with
  | .inl u =>
  (Option.bind (f5 (u.1, z, u.2.2.2.2.2.2.2.2.2.2.1, u.2.2.2.2.2.2.2.2.2.2.2)) fun aD =>
  (Option.bind (f2 (aD.1, u.2.1, u.2.2.1, u.2.2.2.1, u.2.2.2.2.1, u.2.2.2.2.2.1, u.2.2.2.2.2.2.1, u.2.2.2.2.2.2.2.1, aD.2.2.1, aD.2.2.2)) fun m =>
  (Option.bind
  (cond (decide (b = (10 : Int)))
  (Option.bind (f10 ((1024 : Int), m.1, o, m.2.2.2.2.2.2.2.2.1, m.2.2.2.2.2.2.2.2.2)) fun aE =>
  (some (aE.1, aE.2.1, aE.2.2.1, aE.2.2.2)))
  (some (m.1, o, m.2.2.2.2.2.2.2.2.1, m.2.2.2.2.2.2.2.2.2)))
  fun aF =>
  (some (.inr (.inl (aF.1, aD.2.1, m.2.1, m.2.2.1, m.2.2.2.1, m.2.2.2.2.1, m.2.2.2.2.2.1, m.2.2.2.2.2.2.1, m.2.2.2.2.2.2.2.1, u.2.2.2.2.2.2.2.2.1, u.2.2.2.2.2.2.2.2.2.1, aa, ab, ac, ad, ae, af, n, aF.2.1, aF.2.2.1, aF.2.2.2)))))))
  | .inr a0 =>
  (match a0 with
  | .inl v =>
  (Option.bind (f5 (v.1, z, v.2.2.2.2.2.2.2.2.2.2.1, v.2.2.2.2.2.2.2.2.2.2.2)) fun aG =>
  (some (.inl (aG.1, aG.2.1, v.2.1, v.2.2.1, v.2.2.2.1, v.2.2.2.2.1, v.2.2.2.2.2.1, v.2.2.2.2.2.2.1, v.2.2.2.2.2.2.2.1, v.2.2.2.2.2.2.2.2.1, v.2.2.2.2.2.2.2.2.2.1, aa, ab, ac, ad, ae, af, n, o, aG.2.2.1, aG.2.2.2))))
  | .inr a1 =>
  (match a1 with
  | .inl w =>
  (some (.inl (w.1, z, w.2.1, w.2.2.1, w.2.2.2.1, w.2.2.2.2.1, w.2.2.2.2.2.1, w.2.2.2.2.2.2.1, w.2.2.2.2.2.2.2.1, w.2.2.2.2.2.2.2.2.1, w.2.2.2.2.2.2.2.2.2.1, aa, ab, ac, ad, ae, af, n, o, w.2.2.2.2.2.2.2.2.2.2.1, w.2.2.2.2.2.2.2.2.2.2.2)))
  | .inr y =>
  (some (.inr (.inr ((y.1, z, y.2.1, y.2.2.1, y.2.2.2.1, y.2.2.2.2.1, y.2.2.2.2.2.1, y.2.2.2.2.2.2.1, y.2.2.2.2.2.2.2.1, y.2.2.2.2.2.2.2.2.1, y.2.2.2.2.2.2.2.2.2.1, aa, ab, ac, ad, ae, af, n, o, y.2.2.2.2.2.2.2.2.2.2.1, y.2.2.2.2.2.2.2.2.2.2.2))))))))))))))) : Option ((Ty1) ⊕ (Ty1) ⊕ (Ty1)))
  fun a2 =>
  (match a2 with
  | .inl a3 =>
  (un8 a3 fun a4 a5 a6 a7 a8 a9 ba bb bc =>
  un8 bc fun bd be bf bg bh bi bj bk bl =>
  un bl fun bm bn =>
  un bn fun bo bp =>
  un bp fun bq br =>
  un br fun bs bt =>
  (Option.bind (f1 (a4, an, bs, bt)) fun aH =>
  (Option.bind (f5 (aH.1, ao, aH.2.2.1, aH.2.2.2)) fun aI =>
  (some (aI.1, b, a.2.1, a5, aH.2.1, aI.2.1, a6, a7, a8, a9, ba, bb, bd, be, bf, bg, bh, bi, bj, bk, bm, bo, bq, ap, aq, aI.2.2.1, aI.2.2.2)))))
  | .inr bu =>
  (match bu with
  | .inl bv =>
  (un8 bv fun bw bx bz bA bB bC bD bE bF =>
  un8 bF fun bG bH bI bJ bK bL bM bN bO =>
  un bO fun bP bQ =>
  un bQ fun bR bS =>
  un bS fun bT bU =>
  un bU fun bV bW =>
  (some (bw, b, a.2.1, bx, an, ao, bz, bA, bB, bC, bD, bE, bG, bH, bI, bJ, bK, bL, bM, bN, bP, bR, bT, ap, aq, bV, bW)))
  | .inr bX =>
  (un8 bX fun bY bZ b0 b1 b2 b3 b4 b5 b6 =>
  un8 b6 fun b7 b8 b9 ca cb cc cd ce cf =>
  un cf fun cg ch =>
  un ch fun ci cj =>
  un cj fun ck cl =>
  un cl fun cm cn =>
  (Option.bind (f7 (bY, ap, cm, cn)) fun aJ =>
  (Option.bind (f7 (aJ.1, aq, aJ.2.2.1, aJ.2.2.2)) fun aK =>
  (Option.bind (f6 (aK.1, cc, aK.2.2.1, aK.2.2.2)) fun aL =>
  (some (aL.1, b, a.2.1, bZ, an, ao, b0, b1, b2, b3, b4, b5, b7, b8, b9, ca, cb, aL.2.1, cd, ce, cg, ci, ck, aJ.2.1, aK.2.1, aL.2.2.1, aL.2.2.2))))))))))))
def nfs_flow_args (N : Nat) (x : Ty61) : Option (Ty62) := nfs_flow_args_a N (nfs_flow_handle N) (nfs_flow_handle_v1 N) (nfs_flow_set N) (nfs_flow_bool N) (nfs_flow_time N) (nfs_flow_name N) (nfs_flow_uint N) (nfs_flow_hyper N) (nfs_flow_enum N) (nfs_flow_opaque_v1 N) (nfs_flow_text N) x
def slices_Clone_byte_byte (x : (List Int)) : Option ((List Int)) :=
  (agreeC (decide ((List.length x) = 0)) false
  (some ([] : List Int))
  (cond (fits 1 (List.length x))
  ((some x))
  none))
abbrev Ty63 : Type := (List Int) → Option ((List Int))
def xdr_Writer_Bytes_a (N : Nat) (f0 : Ty63) (x : Int × (List Int)) : Option (Int × (List Int) × (List Int)) :=
  (Option.bind (f0 x.2) fun a =>
  (some (x.1, x.2, a)))
def xdr_Writer_Bytes (x : Int × (List Int)) : Option (Int × (List Int) × (List Int)) := xdr_Writer_Bytes_a 0 slices_Clone_byte_byte x
def xdr_Writer_Why (x : Int × (List Int)) : Option (Int × Int × (List Int)) :=
  (some (x.1, x.1, x.2))
abbrev Ty64 : Type := Int × (List Int) → Option (Int × (List Int) × (List Int))
abbrev Ty65 : Type := Int × (List Int) → Option (Int × Int × (List Int))
abbrev Ty66 : Type := Int × (List Int) × (List UInt8) × (List Int) × (List UInt8) × Int × Int × Int × Int × Int × Int × Int × Bool × Int × Int × Int × Int × Int × (List Int) × Int × Int × (List UInt8) × Int × Int
def nfs_lays_api_NfsArgs_a (N : Nat) (f0 : Unit → Option (Unit)) (f1 : Ty61 → Option (Ty62)) (f2 : Ty64) (f3 : Ty65) (x : Ty66) : Option (Bool × (List Int)) :=
  (un8 x fun d e f g h i j k l =>
  un8 l fun m n o p q r s t u =>
  un u fun v w =>
  un w fun y z =>
  un z fun aa ab =>
  un ab fun ac ad =>
  un ad fun ae af =>
  un af fun ag ah =>
  un ah fun ai aj =>
  (Option.bind (f0 ()) fun au =>
  (Option.bind (f1 (false, d, e, f, g, h, i, j, k, m, n, o, p, q, r, s, t, v, y, aa, ac, ae, ag, ai, aj, (0 : Int))) fun ak =>
  (un8 ak fun al av aw ax ay az aA aB am =>
  un8 am fun aC aD aE aF aG aH aI aJ an =>
  un8 an fun aK aL aM aN aO aP aQ aR ao =>
  un ao fun aS ap =>
  un ap fun aq ar =>
  (Option.bind
  (Option.bind (f2 (aq, ar)) fun a =>
  (cond (!al)
  (Option.bind (f3 (a.1, a.2.1)) fun b =>
  (some ((decide (b.1 = (0 : Int))), b.2.1, b.2.2, a.2.2)))
  (some (false, a.1, a.2.1, a.2.2))))
  fun c =>
  (some (c.1, c.2.2.2)))))))
def nfs_lays_api_NfsArgs (N : Nat) (x : Ty66) : Option (Bool × (List Int)) := nfs_lays_api_NfsArgs_a N xdr_NewWriter (nfs_flow_args N) xdr_Writer_Bytes xdr_Writer_Why x
def xdr_NewReader_a (N : Nat) (f0 : Ty63) (x : (List Int)) : Option ((List Int)) :=
  (Option.bind (f0 x) fun a =>
  (some a))
def xdr_NewReader (x : (List Int)) : Option ((List Int)) := xdr_NewReader_a 0 slices_Clone_byte_byte x
def xdr_Reader_At (x : Int × Int × Int × (List Int)) : Option (Int × Int × Int × Int × (List Int)) :=
  (some (x.1, x.1, x.2.1, x.2.2.1, x.2.2.2))
def xdr_Reader_bad (x : Int × Int × Int × (List Int)) : Option (Bool × Int × Int × Int × (List Int)) :=
  (some ((!(decide (x.2.1 = (0 : Int)))), x.1, x.2.1, x.2.2.1, x.2.2.2))
abbrev Ty67 : Type := Int × Int × Int × (List Int) → Option (Bool × Int × Int × Int × (List Int))
def xdr_Reader_fails_a (N : Nat) (f0 : Ty67) (x : Int × Int × Int × Int × Int × (List Int)) : Option (Int × Int × Int × (List Int)) :=
  (Option.bind (f0 (x.2.2.1, x.2.2.2.1, x.2.2.2.2.1, x.2.2.2.2.2)) fun a =>
  (cond (!a.1)
  (some (x.2.1, x.1, x.2.1, a.2.2.2.2))
  (some (a.2.1, a.2.2.1, a.2.2.2.1, a.2.2.2.2))))
def xdr_Reader_fails (x : Int × Int × Int × Int × Int × (List Int)) : Option (Int × Int × Int × (List Int)) := xdr_Reader_fails_a 0 xdr_Reader_bad x
abbrev Ty68 : Type := Int × Int × Int × Int × Int × (List Int) → Option (Int × Int × Int × (List Int))
def xdr_Reader_take_a (N : Nat) (f0 : Ty67) (f1 : Ty68) (x : Int × Int × Int × Int × Int × (List Int)) : Option ((Int × Int × Int × (List Int)) ⊕ (Nat × Nat × Int × Int × Int × (List Int))) :=
  (Option.bind (f0 (x.2.2.1, x.2.2.2.1, x.2.2.2.2.1, x.2.2.2.2.2)) fun a =>
  (cond a.1
  (some (.inl (a.2.1, a.2.2.1, a.2.2.2.1, a.2.2.2.2)))
  (cond (decide ((wrapF .i64 ((((List.length a.2.2.2.2) : Nat) : Int) - a.2.1)) < x.1))
  (Option.bind (f1 ((3 : Int), x.2.1, a.2.1, a.2.2.1, a.2.2.2.1, a.2.2.2.2)) fun b =>
  (some (.inl (b.1, b.2.1, b.2.2.1, b.2.2.2))))
  (let c : Int := (wrapF .i64 (a.2.1 + x.1))
  (cond (((decide ((0 : Int) ≤ a.2.1)) && (decide (a.2.1 ≤ c))) && (decide (c ≤ (((List.length a.2.2.2.2) : Nat) : Int))))
  ((some (.inr (((Int.toNat a.2.1), ((Int.toNat c) - (Int.toNat a.2.1)), (wrapF .i64 (a.2.1 + x.1)), a.2.2.1, a.2.2.2.1, a.2.2.2.2)))))
  none)))))
def xdr_Reader_take (x : Int × Int × Int × Int × Int × (List Int)) : Option ((Int × Int × Int × (List Int)) ⊕ (Nat × Nat × Int × Int × Int × (List Int))) := xdr_Reader_take_a 0 xdr_Reader_bad xdr_Reader_fails x
def octet_Get_b0 (N : Nat) (next : Int × (List Int) × Int × Int → Option (Int)) (x : Int × (List Int) × Int × Int) : Option (Int) :=
  (cond (decide (x.2.2.2 < x.2.2.1))
  (cond ((decide ((0 : Int) ≤ x.2.2.2)) && (decide (x.2.2.2 < (((List.length x.2.1) : Nat) : Int))))
  ((next ((orF .u64 (shlF .u64 x.1 (8 : Int)) (wrapF .u64 (List.getD x.2.1 (Int.toNat x.2.2.2) (EK.dflt (.int .u8))))), x.2.1, x.2.2.1, (wrapF .i64 (x.2.2.2 + (1 : Int))))))
  none)
  (some x.1))
def octet_Get_l0 (N : Nat) : Int × (List Int) × Int × Int → Option (Int) := loopF (octet_Get_b0 N) N
def octet_Get (N : Nat) (x : (List Int)) : Option (Int) :=
  (Option.bind (octet_Get_l0 N ((0 : Int), x, (((List.length x) : Nat) : Int), (0 : Int))) fun a =>
  (some a))
abbrev Ty69 : Type := Int × Int × Int × (List Int) → Option (Int × Int × Int × Int × (List Int))
abbrev Ty70 : Type := Int × Int × Int × Int × Int × (List Int) → Option ((Int × Int × Int × (List Int)) ⊕ (Nat × Nat × Int × Int × Int × (List Int)))
abbrev Ty71 : Type := (List Int) → Option (Int)
def xdr_Reader_Uint_a (N : Nat) (f0 : Ty69) (f1 : Ty70) (f2 : Ty71) (x : Int × Int × Int × (List Int)) : Option (Int × Int × Int × Int × (List Int)) :=
  (Option.bind (f0 (x.1, x.2.1, x.2.2.1, x.2.2.2)) fun b =>
  (Option.bind (f1 ((4 : Int), b.1, b.2.1, b.2.2.1, b.2.2.2.1, b.2.2.2.2)) fun e =>
  (match e with
  | .inl c =>
  (some ((0 : Int), c.1, c.2.1, c.2.2.1, c.2.2.2))
  | .inr a =>
  (agreeC (decide (a.2.1 = 0)) false
  (some ((0 : Int), a.2.2.1, a.2.2.2.1, a.2.2.2.2.1, a.2.2.2.2.2))
  (cond (decide ((4 : Int) ≤ ((a.2.1 : Nat) : Int)))
  ((let d : Nat := (0 + a.1)
  (cond (cond (decide ((d + 4) ≤ (List.length a.2.2.2.2.2))) true false)
  (Option.bind (f2 (List.take 4 (List.drop d a.2.2.2.2.2))) fun f =>
  (some ((wrapF .u32 f), a.2.2.1, a.2.2.2.1, a.2.2.2.2.1, a.2.2.2.2.2)))
  none)))
  none)))))
def xdr_Reader_Uint (N : Nat) (x : Int × Int × Int × (List Int)) : Option (Int × Int × Int × Int × (List Int)) := xdr_Reader_Uint_a N xdr_Reader_At xdr_Reader_take (octet_Get N) x
def xdr_Reader_length_a (N : Nat) (f0 : Ty69) (f1 : Ty69) (f2 : Ty67) (f3 : Ty68) (x : Int × Int × Int × Int × (List Int)) : Option (Int × Int × Int × Int × (List Int)) :=
  (Option.bind (f0 (x.2.1, x.2.2.1, x.2.2.2.1, x.2.2.2.2)) fun c =>
  (Option.bind (f1 (c.2.1, c.2.2.1, c.2.2.2.1, c.2.2.2.2)) fun d =>
  (let f : Int := (wrapF .i64 d.1)
  (Option.bind
  (Option.bind (f2 (d.2.1, d.2.2.1, d.2.2.2.1, d.2.2.2.2)) fun a =>
  (cond (!a.1)
  (some ((decide (x.1 < f)), a.2.1, a.2.2.1, a.2.2.2.1, a.2.2.2.2))
  (some (false, a.2.1, a.2.2.1, a.2.2.2.1, a.2.2.2.2))))
  fun b =>
  (cond b.1
  (Option.bind (f3 ((1 : Int), c.1, b.2.1, b.2.2.1, b.2.2.2.1, b.2.2.2.2)) fun e =>
  (some ((0 : Int), e.1, e.2.1, e.2.2.1, e.2.2.2)))
  (some (f, b.2.1, b.2.2.1, b.2.2.2.1, b.2.2.2.2)))))))
def xdr_Reader_length (N : Nat) (x : Int × Int × Int × Int × (List Int)) : Option (Int × Int × Int × Int × (List Int)) := xdr_Reader_length_a N xdr_Reader_At (xdr_Reader_Uint N) xdr_Reader_bad xdr_Reader_fails x
def xdr_Reader_fixed_a0 (N : Nat) (f0 : Ty67) (f1 : Ty68) (f2 : Int → Option (Int)) (f3 : Ty70) (f4 : Ty63) (next : Int × Int × Nat × Nat × Nat × Nat × Int × Int × Int × Int × Int × (List Int) → Option ((Int × Int × Int × (List Int)) ⊕ (Int × Int × Int × (List Int)))) (x : Int × Int × Nat × Nat × Nat × Nat × Int × Int × Int × Int × Int × (List Int)) : Option ((Int × Int × Int × (List Int)) ⊕ (Int × Int × Int × (List Int))) :=
  (cond (decide (x.2.2.2.2.2.2.2.1 < x.2.2.2.2.2.2.1))
  (cond ((decide ((0 : Int) ≤ x.2.2.2.2.2.2.2.1)) && (decide (x.2.2.2.2.2.2.2.1 < ((x.2.2.2.2.2.1 : Nat) : Int))))
  ((let b : Nat := ((Int.toNat x.2.2.2.2.2.2.2.1) + x.2.2.2.2.1)
  (cond (decide (b < (List.length x.2.2.2.2.2.2.2.2.2.2.2)))
  ((cond (!(decide ((List.getD x.2.2.2.2.2.2.2.2.2.2.2 b (EK.dflt (.int .u8))) = (0 : Int))))
  (Option.bind (f1 ((11 : Int), x.2.1, x.2.2.2.2.2.2.2.2.1, x.2.2.2.2.2.2.2.2.2.1, x.2.2.2.2.2.2.2.2.2.2.1, x.2.2.2.2.2.2.2.2.2.2.2)) fun a =>
  (some (.inl (a.1, a.2.1, a.2.2.1, a.2.2.2))))
  (next (x.1, x.2.1, x.2.2.1, x.2.2.2.1, x.2.2.2.2.1, x.2.2.2.2.2.1, x.2.2.2.2.2.2.1, (wrapF .i64 (x.2.2.2.2.2.2.2.1 + (1 : Int))), x.2.2.2.2.2.2.2.2.1, x.2.2.2.2.2.2.2.2.2.1, x.2.2.2.2.2.2.2.2.2.2.1, x.2.2.2.2.2.2.2.2.2.2.2))))
  none)))
  none)
  (some (.inr ((x.2.2.2.2.2.2.2.2.1, x.2.2.2.2.2.2.2.2.2.1, x.2.2.2.2.2.2.2.2.2.2.1, x.2.2.2.2.2.2.2.2.2.2.2)))))
def xdr_Reader_fixed_b0 (N : Nat) (next : Int × Int × Nat × Nat × Nat × Nat × Int × Int × Int × Int × Int × (List Int) → Option ((Int × Int × Int × (List Int)) ⊕ (Int × Int × Int × (List Int)))) (x : Int × Int × Nat × Nat × Nat × Nat × Int × Int × Int × Int × Int × (List Int)) : Option ((Int × Int × Int × (List Int)) ⊕ (Int × Int × Int × (List Int))) := xdr_Reader_fixed_a0 N xdr_Reader_bad xdr_Reader_fails xdr_padding xdr_Reader_take slices_Clone_byte_byte next x
def xdr_Reader_fixed_l0 (N : Nat) : Int × Int × Nat × Nat × Nat × Nat × Int × Int × Int × Int × Int × (List Int) → Option ((Int × Int × Int × (List Int)) ⊕ (Int × Int × Int × (List Int))) := loopF (xdr_Reader_fixed_b0 N) N
def xdr_Reader_fixed_a (N : Nat) (f0 : Ty67) (f1 : Ty68) (f2 : Int → Option (Int)) (f3 : Ty70) (f4 : Ty63) (x : Int × Int × Int × Int × Int × (List Int)) : Option (Int × Int × Int × (List Int) × (List Int)) :=
  (Option.bind
  (Option.bind (f0 (x.2.2.1, x.2.2.2.1, x.2.2.2.2.1, x.2.2.2.2.2)) fun c =>
  (cond c.1
  (some (true, c.2.1, c.2.2.1, c.2.2.2.1, c.2.2.2.2))
  (some ((decide (x.1 ≤ (0 : Int))), c.2.1, c.2.2.1, c.2.2.2.1, c.2.2.2.2))))
  fun b =>
  (cond b.1
  (some (b.2.1, b.2.2.1, b.2.2.2.1, b.2.2.2.2, ([] : List Int)))
  (cond (decide ((((List.length b.2.2.2.2) : Nat) : Int) < x.1))
  (Option.bind (f1 ((3 : Int), x.2.1, b.2.1, b.2.2.1, b.2.2.2.1, b.2.2.2.2)) fun e =>
  (some (e.1, e.2.1, e.2.2.1, e.2.2.2, ([] : List Int))))
  (Option.bind (f2 x.1) fun k =>
  (Option.bind (f3 ((wrapF .i64 (x.1 + k)), x.2.1, b.2.1, b.2.2.1, b.2.2.2.1, b.2.2.2.2)) fun l =>
  (match l with
  | .inl f =>
  (some (f.1, f.2.1, f.2.2.1, f.2.2.2, ([] : List Int)))
  | .inr a =>
  (agreeC (decide (a.2.1 = 0)) false
  (some (a.2.2.1, a.2.2.2.1, a.2.2.2.2.1, a.2.2.2.2.2, ([] : List Int)))
  (cond (((decide ((0 : Int) ≤ x.1)) && (decide (x.1 ≤ ((a.2.1 : Nat) : Int)))) && (decide (((a.2.1 : Nat) : Int) ≤ ((a.2.1 : Nat) : Int))))
  ((let h : Nat := (a.2.1 - (Int.toNat x.1))
  (Option.bind (xdr_Reader_fixed_l0 N (x.1, x.2.1, a.1, a.2.1, ((Int.toNat x.1) + a.1), h, ((h : Nat) : Int), (0 : Int), a.2.2.1, a.2.2.2.1, a.2.2.2.2.1, a.2.2.2.2.2)) fun m =>
  (match m with
  | .inl g =>
  (some (g.1, g.2.1, g.2.2.1, g.2.2.2, ([] : List Int)))
  | .inr d =>
  (cond ((decide ((0 : Int) ≤ x.1)) && (decide (x.1 ≤ ((a.2.1 : Nat) : Int))))
  ((let i : Nat := (0 + a.1)
  (let j : Nat := (Int.toNat x.1)
  (cond (cond (decide ((i + j) ≤ (List.length d.2.2.2))) true false)
  (Option.bind (f4 (List.take j (List.drop i d.2.2.2))) fun n =>
  (some (d.1, d.2.1, d.2.2.1, d.2.2.2, n)))
  none))))
  none)))))
  none))))))))
def xdr_Reader_fixed (N : Nat) (x : Int × Int × Int × Int × Int × (List Int)) : Option (Int × Int × Int × (List Int) × (List Int)) := xdr_Reader_fixed_a N xdr_Reader_bad xdr_Reader_fails xdr_padding xdr_Reader_take slices_Clone_byte_byte x
abbrev Ty72 : Type := Int × Int × Int × Int × (List Int) → Option (Int × Int × Int × Int × (List Int))
abbrev Ty73 : Type := Int × Int × Int × Int × Int × (List Int) → Option (Int × Int × Int × (List Int) × (List Int))
def xdr_Reader_Opaque_a (N : Nat) (f0 : Ty69) (f1 : Ty72) (f2 : Ty73) (x : Int × Int × Int × Int × (List Int)) : Option (Int × Int × Int × (List Int) × (List Int)) :=
  (Option.bind (f0 (x.2.1, x.2.2.1, x.2.2.2.1, x.2.2.2.2)) fun a =>
  (Option.bind (f1 (x.1, a.2.1, a.2.2.1, a.2.2.2.1, a.2.2.2.2)) fun b =>
  (Option.bind (f2 (b.1, a.1, b.2.1, b.2.2.1, b.2.2.2.1, b.2.2.2.2)) fun c =>
  (some (c.1, c.2.1, c.2.2.1, c.2.2.2.1, c.2.2.2.2)))))
def xdr_Reader_Opaque (N : Nat) (x : Int × Int × Int × Int × (List Int)) : Option (Int × Int × Int × (List Int) × (List Int)) := xdr_Reader_Opaque_a N xdr_Reader_At (xdr_Reader_length N) (xdr_Reader_fixed N) x
abbrev Ty74 : Type := Int × Int × Int × Int × (List Int) → Option (Int × Int × Int × (List Int) × (List Int))
def nfs_flow_opaque_v2_a (N : Nat) (f0 : Ty74) (x : Int × Bool × Int × Int × Int × (List Int)) : Option (Bool × Int × Int × Int × (List Int) × (List Int)) :=
  (Option.bind (f0 (x.1, x.2.2.1, x.2.2.2.1, x.2.2.2.2.1, x.2.2.2.2.2)) fun a =>
  (cond (decide ((((List.length a.2.2.2.2) : Nat) : Int) = (0 : Int)))
  (some (x.2.1, a.1, a.2.1, a.2.2.1, a.2.2.2.1, ([] : List Int)))
  (some (x.2.1, a.1, a.2.1, a.2.2.1, a.2.2.2.1, a.2.2.2.2))))
def nfs_flow_opaque_v2 (N : Nat) (x : Int × Bool × Int × Int × Int × (List Int)) : Option (Bool × Int × Int × Int × (List Int) × (List Int)) := nfs_flow_opaque_v2_a N (xdr_Reader_Opaque N) x
abbrev Ty75 : Type := Int × Bool × Int × Int × Int × (List Int) → Option (Bool × Int × Int × Int × (List Int) × (List Int))
def nfs_flow_handle_v2_a (N : Nat) (f0 : Ty75) (x : Bool × Int × Int × Int × (List Int)) : Option (Bool × Int × Int × Int × (List Int) × (List Int)) :=
  (Option.bind (f0 ((64 : Int), x.1, x.2.1, x.2.2.1, x.2.2.2.1, x.2.2.2.2)) fun a =>
  (some (a.1, a.2.1, a.2.2.1, a.2.2.2.1, a.2.2.2.2.1, a.2.2.2.2.2)))
def nfs_flow_handle_v2 (N : Nat) (x : Bool × Int × Int × Int × (List Int)) : Option (Bool × Int × Int × Int × (List Int) × (List Int)) := nfs_flow_handle_v2_a N (nfs_flow_opaque_v2 N) x
def xdr_Reader_most_a (N : Nat) (f0 : Ty69) (f1 : Ty69) (f2 : Ty68) (x : Int × Int × Int × Int × Int × (List Int)) : Option (Int × Int × Int × Int × (List Int)) :=
  (Option.bind (f0 (x.2.2.1, x.2.2.2.1, x.2.2.2.2.1, x.2.2.2.2.2)) fun b =>
  (Option.bind (f1 (b.2.1, b.2.2.1, b.2.2.2.1, b.2.2.2.2)) fun a =>
  (cond (decide (x.1 < a.1))
  (Option.bind (f2 (x.2.1, b.1, a.2.1, a.2.2.1, a.2.2.2.1, a.2.2.2.2)) fun c =>
  (some ((0 : Int), c.1, c.2.1, c.2.2.1, c.2.2.2)))
  (some (a.1, a.2.1, a.2.2.1, a.2.2.2.1, a.2.2.2.2)))))
def xdr_Reader_most (N : Nat) (x : Int × Int × Int × Int × Int × (List Int)) : Option (Int × Int × Int × Int × (List Int)) := xdr_Reader_most_a N xdr_Reader_At (xdr_Reader_Uint N) xdr_Reader_fails x
abbrev Ty76 : Type := Int × Int × Int × Int × Int × (List Int) → Option (Int × Int × Int × Int × (List Int))
def xdr_Reader_Bool_a (N : Nat) (f0 : Ty76) (x : Int × Int × Int × (List Int)) : Option (Bool × Int × Int × Int × (List Int)) :=
  (Option.bind (f0 ((1 : Int), (10 : Int), x.1, x.2.1, x.2.2.1, x.2.2.2)) fun a =>
  (some ((decide (a.1 = (1 : Int))), a.2.1, a.2.2.1, a.2.2.2.1, a.2.2.2.2)))
def xdr_Reader_Bool (N : Nat) (x : Int × Int × Int × (List Int)) : Option (Bool × Int × Int × Int × (List Int)) := xdr_Reader_Bool_a N (xdr_Reader_most N) x
def nfs_flow_bool_v1_a (N : Nat) (f0 : Ty67) (x : Bool × Bool × Int × Int × Int × (List Int)) : Option (Bool × Bool × Int × Int × Int × (List Int)) :=
  (Option.bind (f0 (x.2.2.1, x.2.2.2.1, x.2.2.2.2.1, x.2.2.2.2.2)) fun a =>
  (some (x.1, a.1, a.2.1, a.2.2.1, a.2.2.2.1, a.2.2.2.2)))
def nfs_flow_bool_v1 (N : Nat) (x : Bool × Bool × Int × Int × Int × (List Int)) : Option (Bool × Bool × Int × Int × Int × (List Int)) := nfs_flow_bool_v1_a N (xdr_Reader_Bool N) x
abbrev Ty77 : Type := Bool × Bool × Int × Int × Int × (List Int) → Option (Bool × Bool × Int × Int × Int × (List Int))
def nfs_flow_flag_v1_a (N : Nat) (f0 : Ty77) (x : Int × Bool × Int × Int × Int × Int × (List Int)) : Option (Bool × Bool × Int × Int × Int × Int × (List Int)) :=
  (Option.bind (f0 (x.2.1, (!(decide ((andF .i64 x.2.2.1 x.1) = (0 : Int)))), x.2.2.2.1, x.2.2.2.2.1, x.2.2.2.2.2.1, x.2.2.2.2.2.2)) fun a =>
  (Option.bind
  (cond a.2.1
  (some (orF .i64 x.2.2.1 x.1))
  (some x.2.2.1))
  fun b =>
  (some (a.2.1, a.1, b, a.2.2.1, a.2.2.2.1, a.2.2.2.2.1, a.2.2.2.2.2))))
def nfs_flow_flag_v1 (N : Nat) (x : Int × Bool × Int × Int × Int × Int × (List Int)) : Option (Bool × Bool × Int × Int × Int × Int × (List Int)) := nfs_flow_flag_v1_a N (nfs_flow_bool_v1 N) x
def nfs_flow_uint_v1_a (N : Nat) (f0 : Ty69) (x : Bool × Int × Int × Int × Int × (List Int)) : Option (Bool × Int × Int × Int × Int × (List Int)) :=
  (Option.bind (f0 (x.2.2.1, x.2.2.2.1, x.2.2.2.2.1, x.2.2.2.2.2)) fun a =>
  (some (x.1, a.1, a.2.1, a.2.2.1, a.2.2.2.1, a.2.2.2.2)))
def nfs_flow_uint_v1 (N : Nat) (x : Bool × Int × Int × Int × Int × (List Int)) : Option (Bool × Int × Int × Int × Int × (List Int)) := nfs_flow_uint_v1_a N (xdr_Reader_Uint N) x
def xdr_Reader_Hyper_a (N : Nat) (f0 : Ty69) (f1 : Ty70) (f2 : Ty71) (x : Int × Int × Int × (List Int)) : Option (Int × Int × Int × Int × (List Int)) :=
  (Option.bind (f0 (x.1, x.2.1, x.2.2.1, x.2.2.2)) fun b =>
  (Option.bind (f1 ((8 : Int), b.1, b.2.1, b.2.2.1, b.2.2.2.1, b.2.2.2.2)) fun e =>
  (match e with
  | .inl c =>
  (some ((0 : Int), c.1, c.2.1, c.2.2.1, c.2.2.2))
  | .inr a =>
  (agreeC (decide (a.2.1 = 0)) false
  (some ((0 : Int), a.2.2.1, a.2.2.2.1, a.2.2.2.2.1, a.2.2.2.2.2))
  (cond (decide ((8 : Int) ≤ ((a.2.1 : Nat) : Int)))
  ((let d : Nat := (0 + a.1)
  (cond (cond (decide ((d + 8) ≤ (List.length a.2.2.2.2.2))) true false)
  (Option.bind (f2 (List.take 8 (List.drop d a.2.2.2.2.2))) fun f =>
  (some (f, a.2.2.1, a.2.2.2.1, a.2.2.2.2.1, a.2.2.2.2.2)))
  none)))
  none)))))
def xdr_Reader_Hyper (N : Nat) (x : Int × Int × Int × (List Int)) : Option (Int × Int × Int × Int × (List Int)) := xdr_Reader_Hyper_a N xdr_Reader_At xdr_Reader_take (octet_Get N) x
def nfs_flow_hyper_v1_a (N : Nat) (f0 : Ty69) (x : Bool × Int × Int × Int × Int × (List Int)) : Option (Bool × Int × Int × Int × Int × (List Int)) :=
  (Option.bind (f0 (x.2.2.1, x.2.2.2.1, x.2.2.2.2.1, x.2.2.2.2.2)) fun a =>
  (some (x.1, a.1, a.2.1, a.2.2.1, a.2.2.2.1, a.2.2.2.2)))
def nfs_flow_hyper_v1 (N : Nat) (x : Bool × Int × Int × Int × Int × (List Int)) : Option (Bool × Int × Int × Int × Int × (List Int)) := nfs_flow_hyper_v1_a N (xdr_Reader_Hyper N) x
abbrev Ty78 : Type := Bool × Int × Int × Int × Int × (List Int) → Option (Bool × Int × Int × Int × Int × (List Int))
def nfs_flow_enum_v1_a (N : Nat) (f0 : Ty78) (x : Int × Bool × Int × Int × Int × Int × (List Int)) : Option (Bool × Int × Int × Int × Int × (List Int)) :=
  (Option.bind (f0 (x.2.1, x.2.2.1, x.2.2.2.1, x.2.2.2.2.1, x.2.2.2.2.2.1, x.2.2.2.2.2.2)) fun a =>
  (Option.bind
  (cond a.1
  (some true)
  (some (decide (x.1 < a.2.1))))
  fun b =>
  (some (b, a.2.1, a.2.2.1, a.2.2.2.1, a.2.2.2.2.1, a.2.2.2.2.2))))
def nfs_flow_enum_v1 (N : Nat) (x : Int × Bool × Int × Int × Int × Int × (List Int)) : Option (Bool × Int × Int × Int × Int × (List Int)) := nfs_flow_enum_v1_a N (nfs_flow_uint_v1 N) x
abbrev Ty79 : Type := Int × Bool × Int × Int × Int × Int × (List Int) → Option (Bool × Int × Int × Int × Int × (List Int))
def nfs_flow_time_v1_a (N : Nat) (f0 : Ty78) (f1 : Ty79) (x : Bool × Int × Int × Int × Int × (List Int)) : Option (Bool × Int × Int × Int × Int × (List Int)) :=
  (Option.bind (f0 (x.1, (wrapF .u32 (wrapF .u64 (Int.tdiv x.2.1 (1000000000 : Int)))), x.2.2.1, x.2.2.2.1, x.2.2.2.2.1, x.2.2.2.2.2)) fun a =>
  (Option.bind (f1 ((999999999 : Int), a.1, (wrapF .u32 (Int.tmod x.2.1 (1000000000 : Int))), a.2.2.1, a.2.2.2.1, a.2.2.2.2.1, a.2.2.2.2.2)) fun b =>
  (some (b.1, (wrapF .u64 ((wrapF .u64 ((wrapF .u64 a.2.1) * (1000000000 : Int))) + (wrapF .u64 b.2.1))), b.2.2.1, b.2.2.2.1, b.2.2.2.2.1, b.2.2.2.2.2))))
def nfs_flow_time_v1 (N : Nat) (x : Bool × Int × Int × Int × Int × (List Int)) : Option (Bool × Int × Int × Int × Int × (List Int)) := nfs_flow_time_v1_a N (nfs_flow_uint_v1 N) (nfs_flow_enum_v1 N) x
def nfs_flow_when_v1_a (N : Nat) (f0 : Ty79) (f1 : Ty78) (x : Int × Int × Bool × Int × Int × Int × Int × Int × (List Int)) : Option (Bool × Int × Int × Int × Int × Int × (List Int)) :=
  (Option.bind
  (cond (!(decide ((andF .i64 x.2.2.2.1 x.2.1) = (0 : Int))))
  (some (2 : Int))
  (cond (!(decide ((andF .i64 x.2.2.2.1 x.1) = (0 : Int))))
  (some (1 : Int))
  (some (0 : Int))))
  fun c =>
  (Option.bind (f0 ((2 : Int), x.2.2.1, c, x.2.2.2.2.2.1, x.2.2.2.2.2.2.1, x.2.2.2.2.2.2.2.1, x.2.2.2.2.2.2.2.2)) fun a =>
  (cond (decide (a.2.1 = (1 : Int)))
  (some (a.1, (orF .i64 x.2.2.2.1 x.1), x.2.2.2.2.1, a.2.2.1, a.2.2.2.1, a.2.2.2.2.1, a.2.2.2.2.2))
  (cond (decide (a.2.1 = (2 : Int)))
  (Option.bind (f1 (a.1, x.2.2.2.2.1, a.2.2.1, a.2.2.2.1, a.2.2.2.2.1, a.2.2.2.2.2)) fun b =>
  (some (b.1, (orF .i64 x.2.2.2.1 x.2.1), b.2.1, b.2.2.1, b.2.2.2.1, b.2.2.2.2.1, b.2.2.2.2.2)))
  (some (a.1, x.2.2.2.1, x.2.2.2.2.1, a.2.2.1, a.2.2.2.1, a.2.2.2.2.1, a.2.2.2.2.2))))))
def nfs_flow_when_v1 (N : Nat) (x : Int × Int × Bool × Int × Int × Int × Int × Int × (List Int)) : Option (Bool × Int × Int × Int × Int × Int × (List Int)) := nfs_flow_when_v1_a N (nfs_flow_enum_v1 N) (nfs_flow_time_v1 N) x
abbrev Ty80 : Type := Int × Bool × Int × Int × Int × Int × (List Int) → Option (Bool × Bool × Int × Int × Int × Int × (List Int))
abbrev Ty81 : Type := Int × Int × Bool × Int × Int × Int × Int × Int × (List Int) → Option (Bool × Int × Int × Int × Int × Int × (List Int))
def nfs_flow_set_v1_a (N : Nat) (f0 : Ty80) (f1 : Ty78) (f2 : Ty78) (f3 : Ty81) (x : Bool × Int × Int × Int × Int × Int × Int × Int × Int × Int × Int × (List Int)) : Option (Bool × Int × Int × Int × Int × Int × Int × Int × Int × Int × Int × (List Int)) :=
  (Option.bind (f0 ((1 : Int), x.1, x.2.1, x.2.2.2.2.2.2.2.2.1, x.2.2.2.2.2.2.2.2.2.1, x.2.2.2.2.2.2.2.2.2.2.1, x.2.2.2.2.2.2.2.2.2.2.2)) fun a =>
  (Option.bind
  (cond a.1
  (Option.bind (f1 (a.2.1, x.2.2.1, a.2.2.2.1, a.2.2.2.2.1, a.2.2.2.2.2.1, a.2.2.2.2.2.2)) fun g =>
  (some (g.1, g.2.1, g.2.2.1, g.2.2.2.1, g.2.2.2.2.1, g.2.2.2.2.2)))
  (some (a.2.1, x.2.2.1, a.2.2.2.1, a.2.2.2.2.1, a.2.2.2.2.2.1, a.2.2.2.2.2.2)))
  fun h =>
  (Option.bind (f0 ((2 : Int), h.1, a.2.2.1, h.2.2.1, h.2.2.2.1, h.2.2.2.2.1, h.2.2.2.2.2)) fun b =>
  (Option.bind
  (cond b.1
  (Option.bind (f1 (b.2.1, x.2.2.2.1, b.2.2.2.1, b.2.2.2.2.1, b.2.2.2.2.2.1, b.2.2.2.2.2.2)) fun i =>
  (some (i.1, i.2.1, i.2.2.1, i.2.2.2.1, i.2.2.2.2.1, i.2.2.2.2.2)))
  (some (b.2.1, x.2.2.2.1, b.2.2.2.1, b.2.2.2.2.1, b.2.2.2.2.2.1, b.2.2.2.2.2.2)))
  fun j =>
  (Option.bind (f0 ((4 : Int), j.1, b.2.2.1, j.2.2.1, j.2.2.2.1, j.2.2.2.2.1, j.2.2.2.2.2)) fun c =>
  (Option.bind
  (cond c.1
  (Option.bind (f1 (c.2.1, x.2.2.2.2.1, c.2.2.2.1, c.2.2.2.2.1, c.2.2.2.2.2.1, c.2.2.2.2.2.2)) fun k =>
  (some (k.1, k.2.1, k.2.2.1, k.2.2.2.1, k.2.2.2.2.1, k.2.2.2.2.2)))
  (some (c.2.1, x.2.2.2.2.1, c.2.2.2.1, c.2.2.2.2.1, c.2.2.2.2.2.1, c.2.2.2.2.2.2)))
  fun l =>
  (Option.bind (f0 ((8 : Int), l.1, c.2.2.1, l.2.2.1, l.2.2.2.1, l.2.2.2.2.1, l.2.2.2.2.2)) fun d =>
  (Option.bind
  (cond d.1
  (Option.bind (f2 (d.2.1, x.2.2.2.2.2.1, d.2.2.2.1, d.2.2.2.2.1, d.2.2.2.2.2.1, d.2.2.2.2.2.2)) fun m =>
  (some (m.1, m.2.1, m.2.2.1, m.2.2.2.1, m.2.2.2.2.1, m.2.2.2.2.2)))
  (some (d.2.1, x.2.2.2.2.2.1, d.2.2.2.1, d.2.2.2.2.1, d.2.2.2.2.2.1, d.2.2.2.2.2.2)))
  fun n =>
  (Option.bind (f3 ((64 : Int), (16 : Int), n.1, d.2.2.1, x.2.2.2.2.2.2.1, n.2.2.1, n.2.2.2.1, n.2.2.2.2.1, n.2.2.2.2.2)) fun e =>
  (Option.bind (f3 ((128 : Int), (32 : Int), e.1, e.2.1, x.2.2.2.2.2.2.2.1, e.2.2.2.1, e.2.2.2.2.1, e.2.2.2.2.2.1, e.2.2.2.2.2.2)) fun f =>
  (some (f.1, f.2.1, h.2.1, j.2.1, l.2.1, n.2.1, e.2.2.1, f.2.2.1, f.2.2.2.1, f.2.2.2.2.1, f.2.2.2.2.2.1, f.2.2.2.2.2.2))))))))))))
def nfs_flow_set_v1 (N : Nat) (x : Bool × Int × Int × Int × Int × Int × Int × Int × Int × Int × Int × (List Int)) : Option (Bool × Int × Int × Int × Int × Int × Int × Int × Int × Int × Int × (List Int)) := nfs_flow_set_v1_a N (nfs_flow_flag_v1 N) (nfs_flow_uint_v1 N) (nfs_flow_hyper_v1 N) (nfs_flow_when_v1 N) x
def xdr_Reader_Text_a (N : Nat) (f0 : Ty74) (x : Int × Int × Int × Int × (List Int)) : Option ((List UInt8) × Int × Int × Int × (List Int)) :=
  (Option.bind (f0 (x.1, x.2.1, x.2.2.1, x.2.2.2.1, x.2.2.2.2)) fun a =>
  (some ((List.map (fun (n : Int) => UInt8.ofNat n.toNat) a.2.2.2.2), a.1, a.2.1, a.2.2.1, a.2.2.2.1)))
def xdr_Reader_Text (N : Nat) (x : Int × Int × Int × Int × (List Int)) : Option ((List UInt8) × Int × Int × Int × (List Int)) := xdr_Reader_Text_a N (xdr_Reader_Opaque N) x
abbrev Ty82 : Type := Int × Int × Int × Int × (List Int) → Option ((List UInt8) × Int × Int × Int × (List Int))
def nfs_flow_text_v1_a (N : Nat) (f0 : Ty82) (x : Int × Bool × (List UInt8) × Int × Int × Int × (List Int)) : Option (Bool × (List UInt8) × Int × Int × Int × (List Int)) :=
  (Option.bind (f0 (x.1, x.2.2.2.1, x.2.2.2.2.1, x.2.2.2.2.2.1, x.2.2.2.2.2.2)) fun a =>
  (some (x.2.1, a.1, a.2.1, a.2.2.1, a.2.2.2.1, a.2.2.2.2)))
def nfs_flow_text_v1 (N : Nat) (x : Int × Bool × (List UInt8) × Int × Int × Int × (List Int)) : Option (Bool × (List UInt8) × Int × Int × Int × (List Int)) := nfs_flow_text_v1_a N (xdr_Reader_Text N) x
abbrev Ty83 : Type := Int × Bool × (List UInt8) × Int × Int × Int × (List Int) → Option (Bool × (List UInt8) × Int × Int × Int × (List Int))
def nfs_flow_name_v1_a (N : Nat) (f0 : Ty83) (x : Bool × (List UInt8) × Int × Int × Int × (List Int)) : Option (Bool × (List UInt8) × Int × Int × Int × (List Int)) :=
  (Option.bind (f0 ((255 : Int), x.1, x.2.1, x.2.2.1, x.2.2.2.1, x.2.2.2.2.1, x.2.2.2.2.2)) fun a =>
  (some (a.1, a.2.1, a.2.2.1, a.2.2.2.1, a.2.2.2.2.1, a.2.2.2.2.2)))
def nfs_flow_name_v1 (N : Nat) (x : Bool × (List UInt8) × Int × Int × Int × (List Int)) : Option (Bool × (List UInt8) × Int × Int × Int × (List Int)) := nfs_flow_name_v1_a N (nfs_flow_text_v1 N) x
abbrev Ty84 : Type := Bool × Int × Int × Int × (List Int) → Option (Bool × Int × Int × Int × (List Int) × (List Int))
abbrev Ty85 : Type := Bool × Int × Int × Int × Int × Int × Int × Int × Int × Int × Int × (List Int) → Option (Bool × Int × Int × Int × Int × Int × Int × Int × Int × Int × Int × (List Int))
abbrev Ty86 : Type := Bool × (List UInt8) × Int × Int × Int × (List Int) → Option (Bool × (List UInt8) × Int × Int × Int × (List Int))
abbrev Ty87 : Type := Bool × Int × (List UInt8) × (List UInt8) × Int × Int × Int × Int × Int × Int × Int × Bool × Int × Int × Int × Int × Int × Int × Int × (List UInt8) × Int × Int × Int × Int × Int × (List Int)
abbrev Ty88 : Type := Bool × Int × (List UInt8) × (List UInt8) × Int × Int × Int × Int × Int × Int × Int × Bool × Int × Int × Int × Int × Int × Int × Int × (List UInt8) × Int × Int × Int × Int × Int × (List Int) × (List Int) × (List Int) × (List Int)
def nfs_flow_args_v1_a (N : Nat) (f0 : Ty84) (f1 : Ty85) (f2 : Ty77) (f3 : Ty78) (f4 : Ty86) (f5 : Ty78) (f6 : Ty78) (f7 : Ty79) (f8 : Ty75) (f9 : Ty83) (x : Ty87) : Option (Ty88) :=
  (un8 x fun az b s aw e f g h aL =>
  un8 aL fun i j k l c t u v aM =>
  un8 aM fun w y m n ax ay aA aB aN =>
  un aN fun aC aD =>
  (cond (decide (b = (0 : Int)))
  (some (az, b, s, aw, e, f, g, h, i, j, k, l, c, t, u, v, w, y, m, n, ax, ay, aA, aB, aC, aD, ([] : List Int), ([] : List Int), ([] : List Int)))
  (Option.bind (f0 (az, aA, aB, aC, aD)) fun a =>
  (Option.bind
  ((Option.bind
  ((cond (decide (b = (2 : Int)))
  (Option.bind (f1 (a.1, e, f, g, h, i, j, k, a.2.1, a.2.2.1, a.2.2.2.1, a.2.2.2.2.1)) fun o =>
  (Option.bind (f2 (o.1, l, o.2.2.2.2.2.2.2.2.1, o.2.2.2.2.2.2.2.2.2.1, o.2.2.2.2.2.2.2.2.2.2.1, o.2.2.2.2.2.2.2.2.2.2.2)) fun p =>
  (Option.bind
  (cond p.2.1
  (Option.bind (f3 (p.1, c, p.2.2.1, p.2.2.2.1, p.2.2.2.2.1, p.2.2.2.2.2)) fun ab =>
  (some (ab.1, ab.2.1, ab.2.2.1, ab.2.2.2.1, ab.2.2.2.2.1, ab.2.2.2.2.2)))
  (some (p.1, c, p.2.2.1, p.2.2.2.1, p.2.2.2.2.1, p.2.2.2.2.2)))
  fun ac =>
  (some (.inr (.inl (ac.1, o.2.1, o.2.2.1, o.2.2.2.1, o.2.2.2.2.1, o.2.2.2.2.2.1, o.2.2.2.2.2.2.1, o.2.2.2.2.2.2.2.1, p.2.1, ac.2.1, ac.2.2.1, ac.2.2.2.1, ac.2.2.2.2.1, ac.2.2.2.2.2)))))))
  (cond (decide (b = (3 : Int)))
  (some (.inl (a.1, e, f, g, h, i, j, k, l, c, a.2.1, a.2.2.1, a.2.2.2.1, a.2.2.2.2.1)))
  (cond (decide (b = (12 : Int)))
  (some (.inl (a.1, e, f, g, h, i, j, k, l, c, a.2.1, a.2.2.1, a.2.2.2.1, a.2.2.2.2.1)))
  (cond (decide (b = (13 : Int)))
  (some (.inl (a.1, e, f, g, h, i, j, k, l, c, a.2.1, a.2.2.1, a.2.2.2.1, a.2.2.2.2.1)))
  (cond (decide (b = (4 : Int)))
  (some (.inr (.inr (.inl (a.1, e, f, g, h, i, j, k, l, c, a.2.1, a.2.2.1, a.2.2.2.1, a.2.2.2.2.1)))))
  (cond (decide (b = (6 : Int)))
  (some (.inr (.inr (.inr (.inl (a.1, e, f, g, h, i, j, k, l, c, a.2.1, a.2.2.1, a.2.2.2.1, a.2.2.2.2.1))))))
  (cond (decide (b = (21 : Int)))
  (some (.inr (.inr (.inr (.inl (a.1, e, f, g, h, i, j, k, l, c, a.2.1, a.2.2.1, a.2.2.2.1, a.2.2.2.2.1))))))
  (cond (decide (b = (7 : Int)))
  (some (.inr (.inr (.inr (.inr (.inl (a.1, e, f, g, h, i, j, k, l, c, a.2.1, a.2.2.1, a.2.2.2.1, a.2.2.2.2.1)))))))
  (cond (decide (b = (8 : Int)))
  (some (.inr (.inr (.inr (.inr (.inr (.inl (a.1, e, f, g, h, i, j, k, l, c, a.2.1, a.2.2.1, a.2.2.2.1, a.2.2.2.2.1))))))))
  (cond (decide (b = (10 : Int)))
  (some (.inr (.inr (.inr (.inr (.inr (.inr (.inl (a.1, e, f, g, h, i, j, k, l, c, a.2.1, a.2.2.1, a.2.2.2.1, a.2.2.2.2.1)))))))))
  (cond (decide (b = (9 : Int)))
  (some (.inr (.inr (.inr (.inr (.inr (.inr (.inl (a.1, e, f, g, h, i, j, k, l, c, a.2.1, a.2.2.1, a.2.2.2.1, a.2.2.2.2.1)))))))))
  (cond (decide (b = (14 : Int)))
  (some (.inr (.inr (.inr (.inr (.inr (.inr (.inr (.inl (a.1, e, f, g, h, i, j, k, l, c, a.2.1, a.2.2.1, a.2.2.2.1, a.2.2.2.2.1))))))))))
  (cond (decide (b = (15 : Int)))
  (some (.inr (.inr (.inr (.inr (.inr (.inr (.inr (.inr (.inl (a.1, e, f, g, h, i, j, k, l, c, a.2.1, a.2.2.1, a.2.2.2.1, a.2.2.2.2.1)))))))))))
  (cond (decide (b = (16 : Int)))
  (some (.inr (.inr (.inr (.inr (.inr (.inr (.inr (.inr (.inr ((a.1, e, f, g, h, i, j, k, l, c, a.2.1, a.2.2.1, a.2.2.2.1, a.2.2.2.2.1))))))))))))
  (some (.inr (.inl (a.1, e, f, g, h, i, j, k, l, c, a.2.1, a.2.2.1, a.2.2.2.1, a.2.2.2.2.1)))))))))))))))))) : Option ((Ty5) ⊕ (Ty5) ⊕ (Ty5) ⊕ (Ty5) ⊕ (Ty5) ⊕ (Ty5) ⊕ (Ty5) ⊕ (Ty5) ⊕ (Ty5) ⊕ (Ty5)))
  fun aO =>
  (match aO with
  | .inl aP =>
  (un8 aP fun aQ aR aS aT aU aV aW aX aY =>
  un aY fun aZ a0 =>
  un a0 fun a1 a2 =>
  un a2 fun a3 a4 =>
  un a4 fun a5 a6 =>
  un a6 fun a7 a8 =>
  (Option.bind (f4 (aQ, s, a3, a5, a7, a8)) fun ad =>
  (some (.inr (.inl (ad.1, ad.2.1, aR, aS, aT, aU, aV, aW, aX, aZ, a1, t, u, v, w, y, m, n, ad.2.2.1, ad.2.2.2.1, ad.2.2.2.2.1, ad.2.2.2.2.2, ([] : List Int)))))))
  | .inr a9 =>
  (match a9 with
  | .inl ba =>
  (un8 ba fun bb bc bd be bf bg bh bi bj =>
  un bj fun bk bl =>
  un bl fun bm bn =>
  un bn fun bo bp =>
  un bp fun bq br =>
  un br fun bs bt =>
  (some (.inr (.inl (bb, s, bc, bd, be, bf, bg, bh, bi, bk, bm, t, u, v, w, y, m, n, bo, bq, bs, bt, ([] : List Int))))))
  | .inr bu =>
  (match bu with
  | .inl bv =>
  (un8 bv fun bw bx bz bA bB bC bD bE bF =>
  un bF fun bG bH =>
  un bH fun bI bJ =>
  un bJ fun bK bL =>
  un bL fun bM bN =>
  un bN fun bO bP =>
  (Option.bind (f5 (bw, t, bK, bM, bO, bP)) fun ae =>
  (some (.inr (.inl (ae.1, s, bx, bz, bA, bB, bC, bD, bE, bG, bI, ae.2.1, u, v, w, y, m, n, ae.2.2.1, ae.2.2.2.1, ae.2.2.2.2.1, ae.2.2.2.2.2, ([] : List Int)))))))
  | .inr bQ =>
  (match bQ with
  | .inl bR =>
  (un8 bR fun bS bT bU bV bW bX bY bZ b0 =>
  un b0 fun b1 b2 =>
  un b2 fun b3 b4 =>
  un b4 fun b5 b6 =>
  un b6 fun b7 b8 =>
  un b8 fun b9 ca =>
  (Option.bind (f6 (bS, u, b5, b7, b9, ca)) fun af =>
  (Option.bind (f5 (af.1, v, af.2.2.1, af.2.2.2.1, af.2.2.2.2.1, af.2.2.2.2.2)) fun ag =>
  (some (.inr (.inl (ag.1, s, bT, bU, bV, bW, bX, bY, bZ, b1, b3, t, af.2.1, ag.2.1, w, y, m, n, ag.2.2.1, ag.2.2.2.1, ag.2.2.2.2.1, ag.2.2.2.2.2, ([] : List Int))))))))
  | .inr cb =>
  (match cb with
  | .inl cc =>
  (un8 cc fun cd ce cf cg ch ci cj ck cl =>
  un cl fun cm cn =>
  un cn fun co cp =>
  un cp fun cq cr =>
  un cr fun cs ct =>
  un ct fun cu cv =>
  (Option.bind (f6 (cd, u, cq, cs, cu, cv)) fun ah =>
  (Option.bind (f5 (ah.1, v, ah.2.2.1, ah.2.2.2.1, ah.2.2.2.2.1, ah.2.2.2.2.2)) fun z =>
  (Option.bind (f7 ((2 : Int), z.1, w, z.2.2.1, z.2.2.2.1, z.2.2.2.2.1, z.2.2.2.2.2)) fun ai =>
  (Option.bind (f8 ((2048 : Int), ai.1, ai.2.2.1, ai.2.2.2.1, ai.2.2.2.2.1, ai.2.2.2.2.2)) fun aa =>
  (Option.bind
  (cond aa.1
  (some true)
  (some (!(decide ((wrapF .u64 z.2.1) = (wrapF .u64 (((List.length aa.2.2.2.2.2) : Nat) : Int)))))))
  fun cw =>
  (some (.inr (.inl (cw, s, ce, cf, cg, ch, ci, cj, ck, cm, co, t, ah.2.1, z.2.1, ai.2.1, y, m, n, aa.2.1, aa.2.2.1, aa.2.2.2.1, aa.2.2.2.2.1, aa.2.2.2.2.2))))))))))
  | .inr cx =>
  (match cx with
  | .inl cy =>
  (un8 cy fun cz aE aF aG aH aI aJ aK cA =>
  un cA fun cB cC =>
  un cC fun cD cE =>
  un cE fun cF cG =>
  un cG fun cH cI =>
  un cI fun cJ cK =>
  (Option.bind (f4 (cz, s, cF, cH, cJ, cK)) fun aj =>
  (Option.bind (f7 ((2 : Int), aj.1, y, aj.2.2.1, aj.2.2.2.1, aj.2.2.2.2.1, aj.2.2.2.2.2)) fun q =>
  (Option.bind
  (cond (decide (q.2.1 = (2 : Int)))
  (Option.bind (f6 (q.1, m, q.2.2.1, q.2.2.2.1, q.2.2.2.2.1, q.2.2.2.2.2)) fun ak =>
  (some (ak.1, aE, aF, aG, aH, aI, aJ, aK, ak.2.1, ak.2.2.1, ak.2.2.2.1, ak.2.2.2.2.1, ak.2.2.2.2.2)))
  (Option.bind (f1 (q.1, aE, aF, aG, aH, aI, aJ, aK, q.2.2.1, q.2.2.2.1, q.2.2.2.2.1, q.2.2.2.2.2)) fun r =>
  (some (r.1, r.2.1, r.2.2.1, r.2.2.2.1, r.2.2.2.2.1, r.2.2.2.2.2.1, r.2.2.2.2.2.2.1, r.2.2.2.2.2.2.2.1, m, r.2.2.2.2.2.2.2.2.1, r.2.2.2.2.2.2.2.2.2.1, r.2.2.2.2.2.2.2.2.2.2.1, r.2.2.2.2.2.2.2.2.2.2.2))))
  fun cL =>
  (un8 cL fun cM cN cO cP cQ cR cS cT cU =>
  un cU fun cV cW =>
  un cW fun cX cY =>
  un cY fun cZ c0 =>
  un c0 fun c1 c2 =>
  (some (.inr (.inl (cM, aj.2.1, cN, cO, cP, cQ, cR, cS, cT, cB, cD, t, u, v, w, q.2.1, cV, n, cX, cZ, c1, c2, ([] : List Int))))))))))
  | .inr c3 =>
  (match c3 with
  | .inl c4 =>
  (un8 c4 fun c5 c6 c7 c8 c9 da db dc dd =>
  un dd fun de df =>
  un df fun dg dh =>
  un dh fun di dj =>
  un dj fun dk dl =>
  un dl fun dm dn =>
  (Option.bind (f4 (c5, s, di, dk, dm, dn)) fun al =>
  (Option.bind (f1 (al.1, c6, c7, c8, c9, da, db, dc, al.2.2.1, al.2.2.2.1, al.2.2.2.2.1, al.2.2.2.2.2)) fun d =>
  (Option.bind
  (cond (decide (b = (10 : Int)))
  (Option.bind (f9 ((1024 : Int), d.1, n, d.2.2.2.2.2.2.2.2.1, d.2.2.2.2.2.2.2.2.2.1, d.2.2.2.2.2.2.2.2.2.2.1, d.2.2.2.2.2.2.2.2.2.2.2)) fun am =>
  (some (am.1, am.2.1, am.2.2.1, am.2.2.2.1, am.2.2.2.2.1, am.2.2.2.2.2)))
  (some (d.1, n, d.2.2.2.2.2.2.2.2.1, d.2.2.2.2.2.2.2.2.2.1, d.2.2.2.2.2.2.2.2.2.2.1, d.2.2.2.2.2.2.2.2.2.2.2)))
  fun an =>
  (some (.inr (.inl (an.1, al.2.1, d.2.1, d.2.2.1, d.2.2.2.1, d.2.2.2.2.1, d.2.2.2.2.2.1, d.2.2.2.2.2.2.1, d.2.2.2.2.2.2.2.1, de, dg, t, u, v, w, y, m, an.2.1, an.2.2.1, an.2.2.2.1, an.2.2.2.2.1, an.2.2.2.2.2, ([] : List Int)))))))))
  | .inr dp =>
  (match dp with
  | .inl dq =>
  (un8 dq fun dr ds dt du dv dw dx dy dz =>
  un dz fun dA dB =>
  un dB fun dC dD =>
  un dD fun dE dF =>
  un dF fun dG dH =>
  un dH fun dI dJ =>
  (Option.bind (f4 (dr, s, dE, dG, dI, dJ)) fun ao =>
  (some (.inl (ao.1, ao.2.1, ds, dt, du, dv, dw, dx, dy, dA, dC, t, u, v, w, y, m, n, ao.2.2.1, ao.2.2.2.1, ao.2.2.2.2.1, ao.2.2.2.2.2)))))
  | .inr dK =>
  (match dK with
  | .inl dL =>
  (un8 dL fun dM dN dO dP dQ dR dS dT dU =>
  un dU fun dV dW =>
  un dW fun dX dY =>
  un dY fun dZ d0 =>
  un d0 fun d1 d2 =>
  un d2 fun d3 d4 =>
  (some (.inl (dM, s, dN, dO, dP, dQ, dR, dS, dT, dV, dX, t, u, v, w, y, m, n, dZ, d1, d3, d4))))
  | .inr d5 =>
  (un8 d5 fun d6 d7 d8 d9 ea eb ec ed ee =>
  un ee fun ef eg =>
  un eg fun eh ei =>
  un ei fun ej ek =>
  un ek fun el em =>
  un em fun en eo =>
  (some (.inr (.inr ((d6, s, d7, d8, d9, ea, eb, ec, ed, ef, eh, t, u, v, w, y, m, n, ej, el, en, eo)))))))))))))))) : Option ((Ty3) ⊕ (Ty4) ⊕ (Ty3)))
  fun ep =>
  (match ep with
  | .inl eq =>
  (un8 eq fun er es et eu ev ew ex ey ez =>
  un8 ez fun eA eB eC eD eE eF eG eH eI =>
  un eI fun eJ eK =>
  un eK fun eL eM =>
  un eM fun eN eO =>
  un eO fun eP eQ =>
  un eQ fun eR eS =>
  (Option.bind (f0 (er, eN, eP, eR, eS)) fun ap =>
  (Option.bind (f4 (ap.1, aw, ap.2.1, ap.2.2.1, ap.2.2.2.1, ap.2.2.2.2.1)) fun aq =>
  (some (aq.1, b, es, aq.2.1, et, eu, ev, ew, ex, ey, eA, eB, eC, eD, eE, eF, eG, eH, eJ, eL, ax, ay, aq.2.2.1, aq.2.2.2.1, aq.2.2.2.2.1, aq.2.2.2.2.2, a.2.2.2.2.2, ap.2.2.2.2.2, ([] : List Int))))))
  | .inr eT =>
  (match eT with
  | .inl eU =>
  (un8 eU fun eV eW eX eY eZ e0 e1 e2 e3 =>
  un8 e3 fun e4 e5 e6 e7 e8 e9 fa fb fc =>
  un fc fun fd fe =>
  un fe fun ff fg =>
  un fg fun fh fi =>
  un fi fun fj fk =>
  un fk fun fl fm =>
  un fm fun fn fo =>
  (some (eV, b, eW, aw, eX, eY, eZ, e0, e1, e2, e4, e5, e6, e7, e8, e9, fa, fb, fd, ff, ax, ay, fh, fj, fl, fn, a.2.2.2.2.2, ([] : List Int), fo)))
  | .inr fp =>
  (un8 fp fun fq fr fs ft fu fv fw fx fy =>
  un8 fy fun fz fA fB fC fD fE fF fG fH =>
  un fH fun fI fJ =>
  un fJ fun fK fL =>
  un fL fun fM fN =>
  un fN fun fO fP =>
  un fP fun fQ fR =>
  (Option.bind (f6 (fq, ax, fM, fO, fQ, fR)) fun ar =>
  (Option.bind (f6 (ar.1, ay, ar.2.2.1, ar.2.2.2.1, ar.2.2.2.2.1, ar.2.2.2.2.2)) fun au =>
  (Option.bind (f5 (au.1, fE, au.2.2.1, au.2.2.2.1, au.2.2.2.2.1, au.2.2.2.2.2)) fun av =>
  (some (av.1, b, fr, aw, fs, ft, fu, fv, fw, fx, fz, fA, fB, fC, fD, av.2.1, fF, fG, fI, fK, ar.2.1, au.2.1, av.2.2.1, av.2.2.2.1, av.2.2.2.2.1, av.2.2.2.2.2, a.2.2.2.2.2, ([] : List Int), ([] : List Int)))))))))))))
def nfs_flow_args_v1 (N : Nat) (x : Ty87) : Option (Ty88) := nfs_flow_args_v1_a N (nfs_flow_handle_v2 N) (nfs_flow_set_v1 N) (nfs_flow_bool_v1 N) (nfs_flow_time_v1 N) (nfs_flow_name_v1 N) (nfs_flow_uint_v1 N) (nfs_flow_hyper_v1 N) (nfs_flow_enum_v1 N) (nfs_flow_opaque_v2 N) (nfs_flow_text_v1 N) x
def xdr_Reader_Done (x : Int × Int × Int × (List Int)) : Option (Int × Int × Int × Int × (List Int)) :=
  (Option.bind
  (cond (decide (x.2.1 = (0 : Int)))
  (some (decide (x.1 < (((List.length x.2.2.2) : Nat) : Int))))
  (some false))
  fun a =>
  (cond a
  (some ((4 : Int), x.1, x.2.1, x.2.2.1, x.2.2.2))
  (some (x.2.1, x.1, x.2.1, x.2.2.1, x.2.2.2))))
abbrev Ty89 : Type := Int × (List UInt8) × (List UInt8) × Int × Int × Int × Int × Int × Int × Int × Bool × Int × Int × Int × Int × Int × Int × Int × (List UInt8) × Int × Int × (List Int)
abbrev Ty90 : Type := Int × (List UInt8) × (List UInt8) × Int × Int × Int × Int × Int × Int × Int × Bool × Int × Int × Int × Int × Int × Int × Int × (List UInt8) × Int × Int × Bool × (List Int) × (List Int) × (List Int)
def nfs_takes_api_NfsArgs_a (N : Nat) (f0 : Ty63) (f1 : Ty87 → Option (Ty88)) (f2 : Ty69) (x : Ty89) : Option (Ty90) :=
  (un8 x fun ab ac ad ae af ag ah ai aj =>
  un8 aj fun ak al am an ao ap aq ar au =>
  un au fun av aw =>
  un aw fun ax ay =>
  un ay fun az aA =>
  un aA fun aB aC =>
  un aC fun aD aE =>
  (Option.bind (f0 aE) fun aF =>
  (Option.bind (f1 (false, ab, ac, ad, ae, af, ag, ah, ai, ak, al, am, an, ao, ap, aq, ar, av, ax, az, aB, aD, (0 : Int), (0 : Int), (0 : Int), aF)) fun aG =>
  (un8 aG fun aH b c d e f g h aI =>
  un8 aI fun i j k l m n o p aJ =>
  un8 aJ fun q r s t u v w y aK =>
  un aK fun z aL =>
  un aL fun aa aM =>
  un aM fun aN aO =>
  un aO fun aP aQ =>
  (Option.bind
  (cond (!aH)
  (Option.bind (f2 (w, y, z, aa)) fun a =>
  (some ((decide (a.1 = (0 : Int))), b, c, d, e, f, g, h, i, j, k, l, m, n, o, p, q, r, s, t, u, v, a.2.1, a.2.2.1, a.2.2.2.1, a.2.2.2.2)))
  (some (false, b, c, d, e, f, g, h, i, j, k, l, m, n, o, p, q, r, s, t, u, v, w, y, z, aa)))
  fun aR =>
  (un8 aR fun aS aT aU aV aW aX aY aZ a0 =>
  un8 a0 fun a1 a2 a3 a4 a5 a6 a7 a8 a9 =>
  un8 a9 fun ba bb bc bd be bf bh bi bg =>
  un bg fun bj bk =>
  (some (aT, aU, aV, aW, aX, aY, aZ, a1, a2, a3, a4, a5, a6, a7, a8, ba, bb, bc, bd, be, bf, aS, aN, aP, aQ))))))))
def nfs_takes_api_NfsArgs (N : Nat) (x : Ty89) : Option (Ty90) := nfs_takes_api_NfsArgs_a N xdr_NewReader (nfs_flow_args_v1 N) xdr_Reader_Done x
def bytes_Equal (x : (List Int) × (List Int)) : Option (Bool) :=
  (some (decide ((List.map (fun (n : Int) => UInt8.ofNat n.toNat) x.1) = (List.map (fun (n : Int) => UInt8.ofNat n.toNat) x.2))))
abbrev Ty91 : Type := (List Int) × (List Int) → Option (Bool)
abbrev Ty92 : Type := Int × (List Int) × (List UInt8) × (List Int) × (List UInt8) × Int × Int × Int × Int × Int × Int × Int × Bool × Int × Int × Int × Int × Int × (List Int) × Int × Int × (List UInt8) × Int × Int × Int × (List Int) × (List UInt8) × (List Int) × (List UInt8) × Int × Int × Int × Int × Int × Int × Int × Bool × Int × Int × Int × Int × Int × (List Int) × Int × Int × (List UInt8) × Int × Int
def nfs_sameArgs_a (N : Nat) (f0 : Ty91) (x : Ty92) : Option (Bool) :=
  (un8 x fun a b c d e f g h i =>
  un8 i fun j k l m n o p q r =>
  un8 r fun s t u v w y z aa ab =>
  un8 ab fun ac ad ae af ag ah ai aj ak =>
  un8 ak fun al am an ao ap aq ar au av =>
  un av fun aw ax =>
  un ax fun ay az =>
  un az fun aA aB =>
  un aB fun aC aD =>
  un aD fun aE aF =>
  un aF fun aG aH =>
  un aH fun aI aJ =>
  (Option.bind
  (cond (decide (a = ac))
  (Option.bind (f0 (b, ad)) fun aK =>
  (cond aK
  (cond (decide (c = ae))
  (Option.bind (f0 (d, af)) fun aL =>
  (cond aL
  (cond (decide (e = ag))
  (cond ((decide (f = ah)) && ((decide (g = ai)) && ((decide (h = aj)) && ((decide (j = al)) && ((decide (k = am)) && ((decide (l = an)) && ((decide (m = ao)) && true)))))))
  (cond (n == ap)
  (cond (decide (o = aq))
  (cond (decide (p = ar))
  (cond (decide (q = au))
  (cond (decide (s = aw))
  (cond (decide (t = ay))
  (Option.bind (f0 (u, aA)) fun aM =>
  (cond aM
  (cond (decide (v = aC))
  (cond (decide (w = aE))
  (cond (decide (y = aG))
  (cond (decide (z = aI))
  (some (decide (aa = aJ)))
  (some false))
  (some false))
  (some false))
  (some false))
  (some false)))
  (some false))
  (some false))
  (some false))
  (some false))
  (some false))
  (some false))
  (some false))
  (some false))
  (some false)))
  (some false))
  (some false)))
  (some false))
  fun aN =>
  (some aN)))
def nfs_sameArgs (x : Ty92) : Option (Bool) := nfs_sameArgs_a 0 bytes_Equal x
abbrev Ty93 : Type := Ty66 → Option (Bool × (List Int))
abbrev Ty94 : Type := Int × (List Int) × (List UInt8) × (List Int) × (List UInt8) × Int × Int × Int × Int × Int × Int × Int × Bool × Int × Int × Int × Int × Int × (List Int) × Int × Int × (List UInt8) × Int × Int × Int × (List UInt8) × (List UInt8) × Int × Int × Int × Int × Int × Int × Int × Bool × Int × Int × Int × Int × Int × Int × Int × (List UInt8) × Int × Int
def nfs_put_api_NfsArgs_a (N : Nat) (f0 : Ty93) (f1 : Ty89 → Option (Ty90)) (f2 : Ty92 → Option (Bool)) (x : Ty94) : Option (Int × (List Int)) :=
  (un8 x fun b c d e f g h i aa =>
  un8 aa fun j k l m n o p q ab =>
  un8 ab fun r s t u v w y z ac =>
  un8 ac fun ad ae af ag ah ai aj ak al =>
  un8 al fun am an ao ap aq ar au av aw =>
  un aw fun ax ay =>
  un ay fun az aA =>
  un aA fun aB aC =>
  un aC fun aD aE =>
  (Option.bind (f0 (b, c, d, e, f, g, h, i, j, k, l, m, n, o, p, q, r, s, t, u, v, w, y, z)) fun a =>
  (cond (!a.1)
  (some ((221 : Int), ([] : List Int)))
  (Option.bind (f1 (ad, ae, af, ag, ah, ai, aj, ak, am, an, ao, ap, aq, ar, au, av, ax, az, aB, aD, aE, a.2)) fun aF =>
  (un8 aF fun aG aH aI aJ aK aL aM aN aO =>
  un8 aO fun aP aQ aR aS aT aU aV aW aX =>
  un8 aX fun aY aZ a0 a1 a2 a3 a4 a5 a6 =>
  (Option.bind
  (cond (!a3)
  (some true)
  (Option.bind (f2 (b, c, d, e, f, g, h, i, j, k, l, m, n, o, p, q, r, s, t, u, v, w, y, z, aG, a4, aH, a5, aI, aJ, aK, aL, aM, aN, aP, aQ, aR, aS, aT, aU, aV, aW, a6, aY, aZ, a0, a1, a2)) fun a7 =>
  (some (!a7))))
  fun a8 =>
  (cond a8
  (some ((221 : Int), ([] : List Int)))
  (some ((0 : Int), a.2)))))))))
def nfs_put_api_NfsArgs (N : Nat) (x : Ty94) : Option (Int × (List Int)) := nfs_put_api_NfsArgs_a N (nfs_lays_api_NfsArgs N) (nfs_takes_api_NfsArgs N) nfs_sameArgs x
abbrev Ty95 : Type := Ty94 → Option (Int × (List Int))
def nfs_PutArgs_a (N : Nat) (f0 : Int → Option (Bool)) (f1 : Ty95) (x : Ty66) : Option (Int × (List Int)) :=
  (un8 x fun a c d e f g h i j =>
  un8 j fun k l m n o p q r s =>
  un s fun t u =>
  un u fun v w =>
  un w fun y z =>
  un z fun aa ab =>
  un ab fun ac ad =>
  un ad fun ae af =>
  un af fun ag ah =>
  (Option.bind (f0 a) fun ai =>
  (cond (!ai)
  (some ((220 : Int), ([] : List Int)))
  (Option.bind (f1 (a, c, d, e, f, g, h, i, k, l, m, n, o, p, q, r, t, v, y, aa, ac, ae, ag, ah, a, ([] : List UInt8), ([] : List UInt8), (0 : Int), (0 : Int), (0 : Int), (0 : Int), (0 : Int), (0 : Int), (0 : Int), false, (0 : Int), (0 : Int), (0 : Int), (0 : Int), (0 : Int), (0 : Int), (0 : Int), ([] : List UInt8), (0 : Int), (0 : Int))) fun b =>
  (some (b.1, b.2))))))
def nfs_PutArgs (N : Nat) (x : Ty66) : Option (Int × (List Int)) := nfs_PutArgs_a N nfs_Known (nfs_put_api_NfsArgs N) x
abbrev Ty96 : Type := Int × (List UInt8) × (List UInt8) × Int × Int × Int × Int × Int × Int × Int × Bool × Int × Int × Int × Int × Int × Int × Int × (List UInt8) × Int × Int × Int × (List Int) × (List Int) × (List Int)
def nfs_get_api_NfsArgs_a (N : Nat) (f0 : Ty89 → Option (Ty90)) (f1 : Ty93) (f2 : Ty91) (x : Ty89) : Option (Ty96) :=
  (un8 x fun ae af ag ah ai aj ak al am =>
  un8 am fun an ao ap aq ar au av aw ax =>
  un ax fun ay az =>
  un az fun aA aB =>
  un aB fun aC aD =>
  un aD fun aE aF =>
  un aF fun aG a =>
  (Option.bind (f0 (ae, af, ag, ah, ai, aj, ak, al, an, ao, ap, aq, ar, au, av, aw, ay, aA, aC, aE, aG, a)) fun aH =>
  (un8 aH fun b c d e f g h i aI =>
  un8 aI fun j k l m n o p q aJ =>
  un8 aJ fun r s t u v aK w y z =>
  (let aa : List UInt8 := ([] : List UInt8)
  (let ab : List UInt8 := ([] : List UInt8)
  (let ac : List UInt8 := ([] : List UInt8)
  (cond (!aK)
  (some ((0 : Int), aa, ab, (0 : Int), (0 : Int), (0 : Int), (0 : Int), (0 : Int), (0 : Int), (0 : Int), false, (0 : Int), (0 : Int), (0 : Int), (0 : Int), (0 : Int), (0 : Int), (0 : Int), ac, (0 : Int), (0 : Int), (222 : Int), ([] : List Int), ([] : List Int), ([] : List Int)))
  (Option.bind (f1 (b, w, c, y, d, e, f, g, h, i, j, k, l, m, n, o, p, q, z, r, s, t, u, v)) fun ad =>
  (Option.bind
  (cond (!ad.1)
  (some true)
  (Option.bind (f2 (ad.2, a)) fun aL =>
  (some (!aL))))
  fun aM =>
  (cond aM
  (some ((0 : Int), aa, ab, (0 : Int), (0 : Int), (0 : Int), (0 : Int), (0 : Int), (0 : Int), (0 : Int), false, (0 : Int), (0 : Int), (0 : Int), (0 : Int), (0 : Int), (0 : Int), (0 : Int), ac, (0 : Int), (0 : Int), (222 : Int), ([] : List Int), ([] : List Int), ([] : List Int)))
  (some (b, c, d, e, f, g, h, i, j, k, l, m, n, o, p, q, r, s, t, u, v, (0 : Int), w, y, z))))))))))))
def nfs_get_api_NfsArgs (N : Nat) (x : Ty89) : Option (Ty96) := nfs_get_api_NfsArgs_a N (nfs_takes_api_NfsArgs N) (nfs_lays_api_NfsArgs N) bytes_Equal x
def nfs_GetArgs_a (N : Nat) (f0 : Int → Option (Bool)) (f1 : Ty89 → Option (Ty96)) (x : Int × (List Int)) : Option (Ty96) :=
  (Option.bind (f0 x.1) fun a =>
  (cond (!a)
  (some ((0 : Int), ([] : List UInt8), ([] : List UInt8), (0 : Int), (0 : Int), (0 : Int), (0 : Int), (0 : Int), (0 : Int), (0 : Int), false, (0 : Int), (0 : Int), (0 : Int), (0 : Int), (0 : Int), (0 : Int), (0 : Int), ([] : List UInt8), (0 : Int), (0 : Int), (220 : Int), ([] : List Int), ([] : List Int), ([] : List Int)))
  (Option.bind (f1 (x.1, ([] : List UInt8), ([] : List UInt8), (0 : Int), (0 : Int), (0 : Int), (0 : Int), (0 : Int), (0 : Int), (0 : Int), false, (0 : Int), (0 : Int), (0 : Int), (0 : Int), (0 : Int), (0 : Int), (0 : Int), ([] : List UInt8), (0 : Int), (0 : Int), x.2)) fun b =>
  (un8 b fun c d e f g h i j k =>
  un8 k fun l m n o p q r s t =>
  un8 t fun u v w y z aa ab ac ad =>
  (some (c, d, e, f, g, h, i, j, l, m, n, o, p, q, r, s, u, v, w, y, z, aa, ab, ac, ad))))))
def nfs_GetArgs (N : Nat) (x : Int × (List Int)) : Option (Ty96) := nfs_GetArgs_a N nfs_Known (nfs_get_api_NfsArgs N) x
def nfs_flow_uint_v2_a (N : Nat) (f0 : Ty40) (x : Bool × Int × Int) : Option (Bool × Int × Int × (List Int)) :=
  (Option.bind (f0 (x.2.1, x.2.2)) fun a =>
  (some (x.1, x.2.1, a.1, a.2)))
def nfs_flow_uint_v2 (N : Nat) (x : Bool × Int × Int) : Option (Bool × Int × Int × (List Int)) := nfs_flow_uint_v2_a N (xdr_Writer_Uint N) x
abbrev Ty97 : Type := Bool × Int × Int × Int × Int × Int × Int × Int × Int × Int × Int × Int × Int × Int × (List Int)
def nfs_flow_attr_a (N : Nat) (f0 : Ty48) (f1 : Ty48) (f2 : Ty49) (f3 : Ty48) (x : Ty97) : Option (Ty97) :=
  (un8 x fun o p q r s t u v w =>
  un w fun y z =>
  un z fun aa ab =>
  un ab fun ac ad =>
  un ad fun ae af =>
  un af fun ag ah =>
  un ah fun ai aj =>
  (Option.bind (f0 (o, (wrapF .u32 p), ai, aj)) fun a =>
  (Option.bind
  (cond a.1
  (some true)
  (cond (!(decide (a.2.1 = (1 : Int))))
  (cond (!(decide (a.2.1 = (2 : Int))))
  (some (!(decide (a.2.1 = (5 : Int)))))
  (some false))
  (some false)))
  fun ak =>
  (Option.bind (f0 (ak, q, a.2.2.1, a.2.2.2)) fun b =>
  (Option.bind (f0 (b.1, r, b.2.2.1, b.2.2.2)) fun c =>
  (Option.bind (f0 (c.1, s, c.2.2.1, c.2.2.2)) fun d =>
  (Option.bind (f0 (d.1, t, d.2.2.1, d.2.2.2)) fun e =>
  (Option.bind (f1 (e.1, u, e.2.2.1, e.2.2.2)) fun f =>
  (Option.bind (f1 (f.1, v, f.2.2.1, f.2.2.2)) fun g =>
  (Option.bind (f2 ((0 : Int), g.1, (0 : Int), g.2.2.1, g.2.2.2)) fun h =>
  (Option.bind (f2 ((0 : Int), h.1, h.2.1, h.2.2.1, h.2.2.2)) fun n =>
  (Option.bind (f1 (n.1, y, n.2.2.1, n.2.2.2)) fun i =>
  (Option.bind (f1 (i.1, aa, i.2.2.1, i.2.2.2)) fun j =>
  (Option.bind (f3 (j.1, ac, j.2.2.1, j.2.2.2)) fun k =>
  (Option.bind (f3 (k.1, ae, k.2.2.1, k.2.2.2)) fun l =>
  (Option.bind (f3 (l.1, ag, l.2.2.1, l.2.2.2)) fun m =>
  (some (m.1, (wrapF .i64 a.2.1), b.2.1, c.2.1, d.2.1, e.2.1, f.2.1, g.2.1, i.2.1, j.2.1, k.2.1, l.2.1, m.2.1, m.2.2.1, m.2.2.2))))))))))))))))))
def nfs_flow_attr (N : Nat) (x : Ty97) : Option (Ty97) := nfs_flow_attr_a N (nfs_flow_uint N) (nfs_flow_hyper N) (nfs_flow_enum N) (nfs_flow_time N) x
def nfs_flow_maybe_a (N : Nat) (f0 : Ty47) (f1 : Ty97 → Option (Ty97)) (x : Ty6) : Option (Ty6) :=
  (un8 x fun n o b c d e f g p =>
  un p fun h q =>
  un q fun i r =>
  un r fun j s =>
  un s fun k t =>
  un t fun l u =>
  un u fun m v =>
  un v fun w y =>
  (Option.bind (f0 (n, o, w, y)) fun a =>
  (cond a.2.1
  (Option.bind (f1 (a.1, b, c, d, e, f, g, h, i, j, k, l, m, a.2.2.1, a.2.2.2)) fun z =>
  (un8 z fun aa ab ac ad ae af ag ah ai =>
  un ai fun aj ak =>
  un ak fun al am =>
  un am fun an ao =>
  un ao fun ap aq =>
  un aq fun ar au =>
  un au fun av aw =>
  (some (aa, a.2.1, ab, ac, ad, ae, af, ag, ah, aj, al, an, ap, ar, av, aw))))
  (some (a.1, a.2.1, b, c, d, e, f, g, h, i, j, k, l, m, a.2.2.1, a.2.2.2)))))
def nfs_flow_maybe (N : Nat) (x : Ty6) : Option (Ty6) := nfs_flow_maybe_a N (nfs_flow_bool N) (nfs_flow_attr N) x
def nfs_flow_fh_a (N : Nat) (f0 : Ty47) (f1 : Ty58) (x : Ty8) : Option (Ty8) :=
  (un8 x fun bl c d e f g h i bm =>
  un8 bm fun j k l m n o p q bn =>
  un8 bn fun r s t u v w y z bo =>
  un8 bo fun aa ab ac ad ae af ag ah bp =>
  un8 bp fun ai aj ak al am an ao ap bq =>
  un8 bq fun aq ar au av aw ax ay az br =>
  un8 br fun aA aB aC aD aE aF aG aH bs =>
  un8 bs fun aI aJ aK aL aM aN aO bt bu =>
  un8 bu fun aP aQ aR aS aT aU aV aW bv =>
  un8 bv fun aX aY aZ a0 a1 a2 a3 a4 bw =>
  un8 bw fun a5 a6 a7 a8 a9 ba bb bc bx =>
  un8 bx fun bd be bf bg bh bi bj bk bz =>
  un bz fun bA bB =>
  (Option.bind (f0 (bl, bt, bA, bB)) fun a =>
  (cond a.2.1
  (Option.bind (f1 (a.1, aP, a.2.2.1, a.2.2.2)) fun b =>
  (some (b.1, c, d, e, f, g, h, i, j, k, l, m, n, o, p, q, r, s, t, u, v, w, y, z, aa, ab, ac, ad, ae, af, ag, ah, ai, aj, ak, al, am, an, ao, ap, aq, ar, au, av, aw, ax, ay, az, aA, aB, aC, aD, aE, aF, aG, aH, aI, aJ, aK, aL, aM, aN, aO, a.2.1, b.2.1, aQ, aR, aS, aT, aU, aV, aW, aX, aY, aZ, a0, a1, a2, a3, a4, a5, a6, a7, a8, a9, ba, bb, bc, bd, be, bf, bg, bh, bi, bj, bk, b.2.2.1, b.2.2.2)))
  (some (a.1, c, d, e, f, g, h, i, j, k, l, m, n, o, p, q, r, s, t, u, v, w, y, z, aa, ab, ac, ad, ae, af, ag, ah, ai, aj, ak, al, am, an, ao, ap, aq, ar, au, av, aw, ax, ay, az, aA, aB, aC, aD, aE, aF, aG, aH, aI, aJ, aK, aL, aM, aN, aO, a.2.1, aP, aQ, aR, aS, aT, aU, aV, aW, aX, aY, aZ, a0, a1, a2, a3, a4, a5, a6, a7, a8, a9, ba, bb, bc, bd, be, bf, bg, bh, bi, bj, bk, a.2.2.1, a.2.2.2)))))
def nfs_flow_fh (N : Nat) (x : Ty8) : Option (Ty8) := nfs_flow_fh_a N (nfs_flow_bool N) (nfs_flow_handle_v1 N) x
def nfs_flow_wcc_a (N : Nat) (f0 : Ty47) (f1 : Ty48) (f2 : Ty48) (f3 : Ty6 → Option (Ty6)) (x : Ty9) : Option (Ty9) :=
  (un8 x fun i j f g h k l m n =>
  un8 n fun o p q r s t u v w =>
  un w fun y z =>
  un z fun aa ab =>
  un ab fun ac ad =>
  (Option.bind (f0 (i, j, ac, ad)) fun a =>
  (Option.bind
  (cond a.2.1
  (Option.bind (f1 (a.1, f, a.2.2.1, a.2.2.2)) fun c =>
  (Option.bind (f2 (c.1, g, c.2.2.1, c.2.2.2)) fun d =>
  (Option.bind (f2 (d.1, h, d.2.2.1, d.2.2.2)) fun e =>
  (some (e.1, c.2.1, d.2.1, e.2.1, e.2.2.1, e.2.2.2)))))
  (some (a.1, f, g, h, a.2.2.1, a.2.2.2)))
  fun b =>
  (Option.bind (f3 (b.1, k, l, m, o, p, q, r, s, t, u, v, y, aa, b.2.2.2.2.1, b.2.2.2.2.2)) fun ae =>
  (un8 ae fun af ag ah ai aj ak al am an =>
  un an fun ao ap =>
  un ap fun aq ar =>
  un ar fun au av =>
  un av fun aw ax =>
  un ax fun ay az =>
  un az fun aA aB =>
  un aB fun aC aD =>
  (some (af, a.2.1, b.2.1, b.2.2.1, b.2.2.2.1, ag, ah, ai, aj, ak, al, am, ao, aq, au, aw, ay, aA, aC, aD)))))))
def nfs_flow_wcc (N : Nat) (x : Ty9) : Option (Ty9) := nfs_flow_wcc_a N (nfs_flow_bool N) (nfs_flow_hyper N) (nfs_flow_time N) (nfs_flow_maybe N) x
def nfs_putEntry_a (N : Nat) (f0 : Ty45) (f1 : Ty54) (x : (List UInt8) × Int × Int × Int × (List Int)) : Option (Int × (List Int)) :=
  (Option.bind (f0 (x.2.1, x.2.2.2.1, x.2.2.2.2)) fun a =>
  (Option.bind (f1 (x.1, (255 : Int), a.1, a.2)) fun b =>
  (Option.bind (f0 (x.2.2.1, b.1, b.2)) fun c =>
  (some (c.1, c.2)))))
def nfs_putEntry (N : Nat) (x : (List UInt8) × Int × Int × Int × (List Int)) : Option (Int × (List Int)) := nfs_putEntry_a N (xdr_Writer_Hyper N) (xdr_Writer_Text N) x
abbrev Ty98 : Type := (List UInt8) × Int × Int × Int × (List Int) → Option (Int × (List Int))
def xdr_PutChain_api_Entry_a0 (N : Nat) (f0 : Ty38) (f1 : Ty46) (f2 : Ty98) (next : (List ((List UInt8) × (Int × (Int × Unit)))) × Int × Int × Int × (List Int) → Option ((Int × (List Int)))) (x : (List ((List UInt8) × (Int × (Int × Unit)))) × Int × Int × Int × (List Int)) : Option ((Int × (List Int))) :=
  (cond (decide (x.2.2.1 < x.2.1))
  (cond ((decide ((0 : Int) ≤ x.2.2.1)) && (decide (x.2.2.1 < (((List.length x.1) : Nat) : Int))))
  ((let a : ((List UInt8) × (Int × (Int × Unit))) := (List.getD x.1 (Int.toNat x.2.2.1) (EK.dflt (.pair .str (.pair (.int .u64) (.pair (.int .u64) .unit)))))
  (Option.bind (f1 (true, x.2.2.2.1, x.2.2.2.2)) fun b =>
  (Option.bind (f2 (a.1, a.2.1, a.2.2.1, b.1, b.2)) fun c =>
  (next (x.1, x.2.1, (wrapF .i64 (x.2.2.1 + (1 : Int))), c.1, c.2))))))
  none)
  (some (x.2.2.2.1, x.2.2.2.2)))
def xdr_PutChain_api_Entry_b0 (N : Nat) (next : (List ((List UInt8) × (Int × (Int × Unit)))) × Int × Int × Int × (List Int) → Option ((Int × (List Int)))) (x : (List ((List UInt8) × (Int × (Int × Unit)))) × Int × Int × Int × (List Int)) : Option ((Int × (List Int))) := xdr_PutChain_api_Entry_a0 N xdr_Writer_bad_v1 (xdr_Writer_Bool N) (nfs_putEntry N) next x
def xdr_PutChain_api_Entry_l0 (N : Nat) : (List ((List UInt8) × (Int × (Int × Unit)))) × Int × Int × Int × (List Int) → Option ((Int × (List Int))) := loopF (xdr_PutChain_api_Entry_b0 N) N
def xdr_PutChain_api_Entry_a (N : Nat) (f0 : Ty38) (f1 : Ty46) (f2 : Ty98) (x : (List ((List UInt8) × (Int × (Int × Unit)))) × Int × (List Int)) : Option (Int × (List Int)) :=
  (Option.bind (f0 (x.2.1, x.2.2)) fun a =>
  (cond a.1
  (some (a.2.1, a.2.2))
  (Option.bind (xdr_PutChain_api_Entry_l0 N (x.1, (((List.length x.1) : Nat) : Int), (0 : Int), a.2.1, a.2.2)) fun b =>
  (Option.bind (f1 (false, b.1, b.2)) fun c =>
  (some (c.1, c.2))))))
def xdr_PutChain_api_Entry (N : Nat) (x : (List ((List UInt8) × (Int × (Int × Unit)))) × Int × (List Int)) : Option (Int × (List Int)) := xdr_PutChain_api_Entry_a N xdr_Writer_bad_v1 (xdr_Writer_Bool N) (nfs_putEntry N) x
abbrev Ty99 : Type := (List ((List UInt8) × (Int × (Int × Unit)))) × Int × (List Int) → Option (Int × (List Int))
def nfs_flow_entries_a (N : Nat) (f0 : Ty99) (x : Bool × (List ((List UInt8) × (Int × (Int × Unit)))) × Int × (List Int)) : Option (Bool × (List ((List UInt8) × (Int × (Int × Unit)))) × Int × (List Int)) :=
  (Option.bind (f0 (x.2.1, x.2.2.1, x.2.2.2)) fun a =>
  (some (x.1, x.2.1, a.1, a.2)))
def nfs_flow_entries (N : Nat) (x : Bool × (List ((List UInt8) × (Int × (Int × Unit)))) × Int × (List Int)) : Option (Bool × (List ((List UInt8) × (Int × (Int × Unit)))) × Int × (List Int)) := nfs_flow_entries_a N (xdr_PutChain_api_Entry N) x
abbrev Ty100 : Type := Bool × (List ((List UInt8) × (Int × (Int × Unit)))) × Int × (List Int) → Option (Bool × (List ((List UInt8) × (Int × (Int × Unit)))) × Int × (List Int))
def nfs_flow_more_a (N : Nat) (f0 : Ty48) (f1 : Ty55) (f2 : Ty47) (f3 : Ty56) (f4 : Ty49) (f5 : Ty48) (f6 : Ty100) (f7 : Ty48) (x : Ty8) : Option (Ty8) :=
  (un8 x fun b a c d e f g h bX =>
  un8 bX fun i j k l m n o p bY =>
  un8 bY fun q r s t u v w y bZ =>
  un8 bZ fun z aa ab ac ad ae af ag b0 =>
  un8 b0 fun ah ai aj ak al am an ao b1 =>
  un8 b1 fun ap aq ar au av aw ax ay b2 =>
  un8 b2 fun az aA aB aC aD aE aF aG b3 =>
  un8 b3 fun aH aI aJ aK aL aM aN aO b4 =>
  un8 b4 fun aP aQ aR aS aT aU aV aW b5 =>
  un8 b5 fun aX aY aZ a0 a1 a2 a3 a4 b6 =>
  un8 b6 fun a5 a6 a7 a8 a9 ba bb bc b7 =>
  un8 b7 fun bd be bf bg bh bi bj bk b8 =>
  un b8 fun bl bm =>
  (cond (decide (a = (4 : Int)))
  (Option.bind (f0 (b, aQ, bl, bm)) fun bp =>
  (some (bp.1, a, c, d, e, f, g, h, i, j, k, l, m, n, o, p, q, r, s, t, u, v, w, y, z, aa, ab, ac, ad, ae, af, ag, ah, ai, aj, ak, al, am, an, ao, ap, aq, ar, au, av, aw, ax, ay, az, aA, aB, aC, aD, aE, aF, aG, aH, aI, aJ, aK, aL, aM, aN, aO, aP, bp.2.1, aR, aS, aT, aU, aV, aW, aX, aY, aZ, a0, a1, a2, a3, a4, a5, a6, a7, a8, a9, ba, bb, bc, bd, be, bf, bg, bh, bi, bj, bk, bp.2.2.1, bp.2.2.2)))
  (cond (decide (a = (5 : Int)))
  (Option.bind (f1 ((1024 : Int), b, aR, bl, bm)) fun bq =>
  (some (bq.1, a, c, d, e, f, g, h, i, j, k, l, m, n, o, p, q, r, s, t, u, v, w, y, z, aa, ab, ac, ad, ae, af, ag, ah, ai, aj, ak, al, am, an, ao, ap, aq, ar, au, av, aw, ax, ay, az, aA, aB, aC, aD, aE, aF, aG, aH, aI, aJ, aK, aL, aM, aN, aO, aP, aQ, bq.2.1, aS, aT, aU, aV, aW, aX, aY, aZ, a0, a1, a2, a3, a4, a5, a6, a7, a8, a9, ba, bb, bc, bd, be, bf, bg, bh, bi, bj, bk, bq.2.2.1, bq.2.2.2)))
  (cond (decide (a = (6 : Int)))
  (Option.bind (f0 (b, aS, bl, bm)) fun bn =>
  (Option.bind (f2 (bn.1, aT, bn.2.2.1, bn.2.2.2)) fun br =>
  (Option.bind (f3 ((2048 : Int), br.1, aU, br.2.2.1, br.2.2.2)) fun bo =>
  (Option.bind
  (cond bo.1
  (some true)
  (some (!(decide ((wrapF .u64 bn.2.1) = (wrapF .u64 (((List.length bo.2.1) : Nat) : Int)))))))
  fun b9 =>
  (some (b9, a, c, d, e, f, g, h, i, j, k, l, m, n, o, p, q, r, s, t, u, v, w, y, z, aa, ab, ac, ad, ae, af, ag, ah, ai, aj, ak, al, am, an, ao, ap, aq, ar, au, av, aw, ax, ay, az, aA, aB, aC, aD, aE, aF, aG, aH, aI, aJ, aK, aL, aM, aN, aO, aP, aQ, aR, bn.2.1, br.2.1, bo.2.1, aV, aW, aX, aY, aZ, a0, a1, a2, a3, a4, a5, a6, a7, a8, a9, ba, bb, bc, bd, be, bf, bg, bh, bi, bj, bk, bo.2.2.1, bo.2.2.2))))))
  (cond (decide (a = (7 : Int)))
  (Option.bind (f0 (b, aS, bl, bm)) fun bs =>
  (Option.bind (f4 ((2 : Int), bs.1, aV, bs.2.2.1, bs.2.2.2)) fun bt =>
  (Option.bind (f5 (bt.1, aW, bt.2.2.1, bt.2.2.2)) fun bu =>
  (some (bu.1, a, c, d, e, f, g, h, i, j, k, l, m, n, o, p, q, r, s, t, u, v, w, y, z, aa, ab, ac, ad, ae, af, ag, ah, ai, aj, ak, al, am, an, ao, ap, aq, ar, au, av, aw, ax, ay, az, aA, aB, aC, aD, aE, aF, aG, aH, aI, aJ, aK, aL, aM, aN, aO, aP, aQ, aR, bs.2.1, aT, aU, bt.2.1, bu.2.1, aX, aY, aZ, a0, a1, a2, a3, a4, a5, a6, a7, a8, a9, ba, bb, bc, bd, be, bf, bg, bh, bi, bj, bk, bu.2.2.1, bu.2.2.2)))))
  (cond (decide (a = (16 : Int)))
  (Option.bind (f5 (b, aW, bl, bm)) fun bv =>
  (Option.bind (f6 (bv.1, aX, bv.2.2.1, bv.2.2.2)) fun bw =>
  (Option.bind (f2 (bw.1, aT, bw.2.2.1, bw.2.2.2)) fun bx =>
  (some (bx.1, a, c, d, e, f, g, h, i, j, k, l, m, n, o, p, q, r, s, t, u, v, w, y, z, aa, ab, ac, ad, ae, af, ag, ah, ai, aj, ak, al, am, an, ao, ap, aq, ar, au, av, aw, ax, ay, az, aA, aB, aC, aD, aE, aF, aG, aH, aI, aJ, aK, aL, aM, aN, aO, aP, aQ, aR, aS, bx.2.1, aU, aV, bv.2.1, bw.2.1, aY, aZ, a0, a1, a2, a3, a4, a5, a6, a7, a8, a9, ba, bb, bc, bd, be, bf, bg, bh, bi, bj, bk, bx.2.2.1, bx.2.2.2)))))
  (cond (decide (a = (18 : Int)))
  (Option.bind (f5 (b, aY, bl, bm)) fun bz =>
  (Option.bind (f5 (bz.1, aZ, bz.2.2.1, bz.2.2.2)) fun bA =>
  (Option.bind (f5 (bA.1, a0, bA.2.2.1, bA.2.2.2)) fun bB =>
  (Option.bind (f5 (bB.1, a1, bB.2.2.1, bB.2.2.2)) fun bC =>
  (Option.bind (f5 (bC.1, a2, bC.2.2.1, bC.2.2.2)) fun bD =>
  (Option.bind (f5 (bD.1, a3, bD.2.2.1, bD.2.2.2)) fun bE =>
  (Option.bind (f0 (bE.1, a4, bE.2.2.1, bE.2.2.2)) fun bF =>
  (some (bF.1, a, c, d, e, f, g, h, i, j, k, l, m, n, o, p, q, r, s, t, u, v, w, y, z, aa, ab, ac, ad, ae, af, ag, ah, ai, aj, ak, al, am, an, ao, ap, aq, ar, au, av, aw, ax, ay, az, aA, aB, aC, aD, aE, aF, aG, aH, aI, aJ, aK, aL, aM, aN, aO, aP, aQ, aR, aS, aT, aU, aV, aW, aX, bz.2.1, bA.2.1, bB.2.1, bC.2.1, bD.2.1, bE.2.1, bF.2.1, a5, a6, a7, a8, a9, ba, bb, bc, bd, be, bf, bg, bh, bi, bj, bk, bF.2.2.1, bF.2.2.2)))))))))
  (cond (decide (a = (19 : Int)))
  (Option.bind (f0 (b, a5, bl, bm)) fun bG =>
  (Option.bind (f0 (bG.1, a6, bG.2.2.1, bG.2.2.2)) fun bH =>
  (Option.bind (f0 (bH.1, a7, bH.2.2.1, bH.2.2.2)) fun bI =>
  (Option.bind (f0 (bI.1, a8, bI.2.2.1, bI.2.2.2)) fun bJ =>
  (Option.bind (f0 (bJ.1, a9, bJ.2.2.1, bJ.2.2.2)) fun bK =>
  (Option.bind (f0 (bK.1, ba, bK.2.2.1, bK.2.2.2)) fun bL =>
  (Option.bind (f0 (bL.1, bb, bL.2.2.1, bL.2.2.2)) fun bM =>
  (Option.bind (f5 (bM.1, bc, bM.2.2.1, bM.2.2.2)) fun bN =>
  (Option.bind (f7 (bN.1, bd, bN.2.2.1, bN.2.2.2)) fun bO =>
  (Option.bind (f0 (bO.1, be, bO.2.2.1, bO.2.2.2)) fun bP =>
  (some (bP.1, a, c, d, e, f, g, h, i, j, k, l, m, n, o, p, q, r, s, t, u, v, w, y, z, aa, ab, ac, ad, ae, af, ag, ah, ai, aj, ak, al, am, an, ao, ap, aq, ar, au, av, aw, ax, ay, az, aA, aB, aC, aD, aE, aF, aG, aH, aI, aJ, aK, aL, aM, aN, aO, aP, aQ, aR, aS, aT, aU, aV, aW, aX, aY, aZ, a0, a1, a2, a3, a4, bG.2.1, bH.2.1, bI.2.1, bJ.2.1, bK.2.1, bL.2.1, bM.2.1, bN.2.1, bO.2.1, bP.2.1, bf, bg, bh, bi, bj, bk, bP.2.2.1, bP.2.2.2))))))))))))
  (cond (decide (a = (20 : Int)))
  (Option.bind (f0 (b, bf, bl, bm)) fun bQ =>
  (Option.bind (f0 (bQ.1, bg, bQ.2.2.1, bQ.2.2.2)) fun bR =>
  (Option.bind (f2 (bR.1, bh, bR.2.2.1, bR.2.2.2)) fun bS =>
  (Option.bind (f2 (bS.1, bi, bS.2.2.1, bS.2.2.2)) fun bT =>
  (Option.bind (f2 (bT.1, bj, bT.2.2.1, bT.2.2.2)) fun bU =>
  (Option.bind (f2 (bU.1, bk, bU.2.2.1, bU.2.2.2)) fun bV =>
  (some (bV.1, a, c, d, e, f, g, h, i, j, k, l, m, n, o, p, q, r, s, t, u, v, w, y, z, aa, ab, ac, ad, ae, af, ag, ah, ai, aj, ak, al, am, an, ao, ap, aq, ar, au, av, aw, ax, ay, az, aA, aB, aC, aD, aE, aF, aG, aH, aI, aJ, aK, aL, aM, aN, aO, aP, aQ, aR, aS, aT, aU, aV, aW, aX, aY, aZ, a0, a1, a2, a3, a4, a5, a6, a7, a8, a9, ba, bb, bc, bd, be, bQ.2.1, bR.2.1, bS.2.1, bT.2.1, bU.2.1, bV.2.1, bV.2.2.1, bV.2.2.2))))))))
  (cond (decide (a = (21 : Int)))
  (Option.bind (f5 (b, aW, bl, bm)) fun bW =>
  (some (bW.1, a, c, d, e, f, g, h, i, j, k, l, m, n, o, p, q, r, s, t, u, v, w, y, z, aa, ab, ac, ad, ae, af, ag, ah, ai, aj, ak, al, am, an, ao, ap, aq, ar, au, av, aw, ax, ay, az, aA, aB, aC, aD, aE, aF, aG, aH, aI, aJ, aK, aL, aM, aN, aO, aP, aQ, aR, aS, aT, aU, aV, bW.2.1, aX, aY, aZ, a0, a1, a2, a3, a4, a5, a6, a7, a8, a9, ba, bb, bc, bd, be, bf, bg, bh, bi, bj, bk, bW.2.2.1, bW.2.2.2)))
  (some (b, a, c, d, e, f, g, h, i, j, k, l, m, n, o, p, q, r, s, t, u, v, w, y, z, aa, ab, ac, ad, ae, af, ag, ah, ai, aj, ak, al, am, an, ao, ap, aq, ar, au, av, aw, ax, ay, az, aA, aB, aC, aD, aE, aF, aG, aH, aI, aJ, aK, aL, aM, aN, aO, aP, aQ, aR, aS, aT, aU, aV, aW, aX, aY, aZ, a0, a1, a2, a3, a4, a5, a6, a7, a8, a9, ba, bb, bc, bd, be, bf, bg, bh, bi, bj, bk, bl, bm))))))))))))
def nfs_flow_more (N : Nat) (x : Ty8) : Option (Ty8) := nfs_flow_more_a N (nfs_flow_uint N) (nfs_flow_text N) (nfs_flow_bool N) (nfs_flow_opaque_v1 N) (nfs_flow_enum N) (nfs_flow_hyper N) (nfs_flow_entries N) (nfs_flow_time N) x
abbrev Ty101 : Type := Bool × Int × Int → Option (Bool × Int × Int × (List Int))
abbrev Ty102 : Type := Bool × Int × Int × Bool × Int × Int × Int × Int × Int × Int × Int × Int × Int × Int × Int × Int × Bool × Int × Int × Int × Int × Int × Int × Int × Int × Int × Int × Int × Int × Bool × Int × Int × Int × Bool × Int × Int × Int × Int × Int × Int × Int × Int × Int × Int × Int × Int × Bool × Int × Int × Int × Bool × Int × Int × Int × Int × Int × Int × Int × Int × Int × Int × Int × Int × Bool × (List Int) × Int × (List UInt8) × Int × Bool × (List Int) × Int × Int × (List ((List UInt8) × (Int × (Int × Unit)))) × Int × Int × Int × Int × Int × Int × Int × Int × Int × Int × Int × Int × Int × Int × Int × Int × Int × Int × Int × Bool × Bool × Bool × Bool × Int
def nfs_flow_res_a (N : Nat) (f0 : Ty101) (f1 : Ty97 → Option (Ty97)) (f2 : Ty58) (f3 : Ty6 → Option (Ty6)) (f4 : Ty8 → Option (Ty8)) (f5 : Ty9 → Option (Ty9)) (f6 : Ty8 → Option (Ty8)) (x : Ty102) : Option (Ty8) :=
  (un8 x fun bn b bo o c d e f dP =>
  un8 dP fun g h i j k l m n dQ =>
  un8 dQ fun q r s t u v w y dR =>
  un8 dR fun z aa ab ac ad af ag ah dS =>
  un8 dS fun ai aj ak al am an ao ap dT =>
  un8 dT fun aq ar au av aw ax ay az dU =>
  un8 dU fun aA aB aC aD aE aF aG aH dV =>
  un8 dV fun aI aJ aK aL aM aN aO ae dW =>
  un8 dW fun p aP aQ aR aS aT aU aV dX =>
  un8 dX fun aW aX aY aZ a0 a1 a2 a3 dY =>
  un8 dY fun a4 a5 a6 a7 a8 a9 ba bb dZ =>
  un8 dZ fun bc bd be bf bg bh bi bj bp =>
  (cond (decide (b = (0 : Int)))
  (some (bn, b, bo, o, c, d, e, f, g, h, i, j, k, l, m, n, q, r, s, t, u, v, w, y, z, aa, ab, ac, ad, af, ag, ah, ai, aj, ak, al, am, an, ao, ap, aq, ar, au, av, aw, ax, ay, az, aA, aB, aC, aD, aE, aF, aG, aH, aI, aJ, aK, aL, aM, aN, aO, ae, p, aP, aQ, aR, aS, aT, aU, aV, aW, aX, aY, aZ, a0, a1, a2, a3, a4, a5, a6, a7, a8, a9, ba, bb, bc, bd, be, bf, bg, bh, bi, bj, bp, ([] : List Int)))
  (Option.bind (f0 (bn, bo, bp)) fun a =>
  (Option.bind
  ((Option.bind
  ((Option.bind
  ((cond (decide (b = (1 : Int)))
  (Option.bind
  (cond (decide (a.2.1 = (0 : Int)))
  (Option.bind (f1 (a.1, c, d, e, f, g, h, i, j, k, l, m, n, a.2.2.1, a.2.2.2)) fun d0 =>
  (un8 d0 fun d1 d2 d3 d4 d5 d6 d7 d8 d9 =>
  un d9 fun ea eb =>
  un eb fun ec ed =>
  un ed fun ee ef =>
  un ef fun eg eh =>
  un eh fun ei ej =>
  un ej fun ek el =>
  (some (d1, true, d2, d3, d4, d5, d6, d7, d8, ea, ec, ee, eg, ei, ek, el))))
  (some (a.1, o, c, d, e, f, g, h, i, j, k, l, m, n, a.2.2.1, a.2.2.2)))
  fun em =>
  (un8 em fun en eo ep eq er es et eu ev =>
  un ev fun ew ex =>
  un ex fun ey ez =>
  un ez fun eA eB =>
  un eB fun eC eD =>
  un eD fun eE eF =>
  un eF fun eG eH =>
  un eH fun eI eJ =>
  (some (.inr (.inl (en, eo, ep, eq, er, es, et, eu, ew, ey, eA, eC, eE, eG, q, r, s, t, u, v, w, y, z, aa, ab, ac, ad, ae, p, eI, eJ))))))
  (cond (decide (b = (3 : Int)))
  (Option.bind
  (cond (decide (a.2.1 = (0 : Int)))
  (Option.bind (f2 (a.1, p, a.2.2.1, a.2.2.2)) fun bk =>
  (Option.bind (f3 (bk.1, o, c, d, e, f, g, h, i, j, k, l, m, n, bk.2.2.1, bk.2.2.2)) fun eK =>
  (un8 eK fun eL eM eN eO eP eQ eR eS eT =>
  un eT fun eU eV =>
  un eV fun eW eX =>
  un eX fun eY eZ =>
  un eZ fun e0 e1 =>
  un e1 fun e2 e3 =>
  un e3 fun e4 e5 =>
  un e5 fun e6 e7 =>
  (some (eL, eM, eN, eO, eP, eQ, eR, eS, eU, eW, eY, e0, e2, e4, true, bk.2.1, e6, e7)))))
  (some (a.1, o, c, d, e, f, g, h, i, j, k, l, m, n, ae, p, a.2.2.1, a.2.2.2)))
  fun e8 =>
  (un8 e8 fun e9 fa fb fc fd fe ff fg fh =>
  un8 fh fun fi fj fk fl fm fn fo fp fq =>
  un fq fun fr fs =>
  (Option.bind (f3 (e9, q, r, s, t, u, v, w, y, z, aa, ab, ac, ad, fr, fs)) fun ft =>
  (un8 ft fun fu fv fw fx fy fz fA fB fC =>
  un fC fun fD fE =>
  un fE fun fF fG =>
  un fG fun fH fI =>
  un fI fun fJ fK =>
  un fK fun fL fM =>
  un fM fun fN fO =>
  un fO fun fP fQ =>
  (some (.inr (.inl (fu, fa, fb, fc, fd, fe, ff, fg, fi, fj, fk, fl, fm, fn, fv, fw, fx, fy, fz, fA, fB, fD, fF, fH, fJ, fL, fN, fo, fp, fP, fQ))))))))
  (cond (decide (b = (8 : Int)))
  (some (.inl (a.1, o, c, d, e, f, g, h, i, j, k, l, m, n, q, r, s, t, u, v, w, y, z, aa, ab, ac, ad, ae, p, a.2.2.1, a.2.2.2)))
  (cond (decide (b = (9 : Int)))
  (some (.inl (a.1, o, c, d, e, f, g, h, i, j, k, l, m, n, q, r, s, t, u, v, w, y, z, aa, ab, ac, ad, ae, p, a.2.2.1, a.2.2.2)))
  (cond (decide (b = (10 : Int)))
  (some (.inl (a.1, o, c, d, e, f, g, h, i, j, k, l, m, n, q, r, s, t, u, v, w, y, z, aa, ab, ac, ad, ae, p, a.2.2.1, a.2.2.2)))
  (cond (decide (b = (2 : Int)))
  (some (.inr (.inr (.inl (a.1, o, c, d, e, f, g, h, i, j, k, l, m, n, q, r, s, t, u, v, w, y, z, aa, ab, ac, ad, ae, p, a.2.2.1, a.2.2.2)))))
  (cond (decide (b = (7 : Int)))
  (some (.inr (.inr (.inl (a.1, o, c, d, e, f, g, h, i, j, k, l, m, n, q, r, s, t, u, v, w, y, z, aa, ab, ac, ad, ae, p, a.2.2.1, a.2.2.2)))))
  (cond (decide (b = (12 : Int)))
  (some (.inr (.inr (.inl (a.1, o, c, d, e, f, g, h, i, j, k, l, m, n, q, r, s, t, u, v, w, y, z, aa, ab, ac, ad, ae, p, a.2.2.1, a.2.2.2)))))
  (cond (decide (b = (13 : Int)))
  (some (.inr (.inr (.inl (a.1, o, c, d, e, f, g, h, i, j, k, l, m, n, q, r, s, t, u, v, w, y, z, aa, ab, ac, ad, ae, p, a.2.2.1, a.2.2.2)))))
  (cond (decide (b = (14 : Int)))
  (some (.inr (.inr (.inl (a.1, o, c, d, e, f, g, h, i, j, k, l, m, n, q, r, s, t, u, v, w, y, z, aa, ab, ac, ad, ae, p, a.2.2.1, a.2.2.2)))))
  (cond (decide (b = (21 : Int)))
  (some (.inr (.inr (.inl (a.1, o, c, d, e, f, g, h, i, j, k, l, m, n, q, r, s, t, u, v, w, y, z, aa, ab, ac, ad, ae, p, a.2.2.1, a.2.2.2)))))
  (cond (decide (b = (15 : Int)))
  (some (.inr (.inr (.inr (.inl (a.1, o, c, d, e, f, g, h, i, j, k, l, m, n, q, r, s, t, u, v, w, y, z, aa, ab, ac, ad, ae, p, a.2.2.1, a.2.2.2))))))
  (some (.inr (.inr (.inr (.inr ((a.1, o, c, d, e, f, g, h, i, j, k, l, m, n, q, r, s, t, u, v, w, y, z, aa, ab, ac, ad, ae, p, a.2.2.1, a.2.2.2))))))))))))))))))) : Option ((Ty10) ⊕ (Ty10) ⊕ (Ty10) ⊕ (Ty10) ⊕ (Ty10)))
  fun fR =>
  (match fR with
  | .inl fS =>
  (un8 fS fun bq br bs bt bu bv bw bx fT =>
  un8 fT fun bz bA bB bC bD bE bF bG fU =>
  un8 fU fun bH bI bJ bK bL bM bN bO fV =>
  un fV fun bP fW =>
  un fW fun bQ fX =>
  un fX fun bR fY =>
  un fY fun bS fZ =>
  un fZ fun bT ga =>
  un ga fun bU bV =>
  (cond (decide (a.2.1 = (0 : Int)))
  (Option.bind (f4 (bq, b, a.2.1, br, bs, bt, bu, bv, bw, bx, bz, bA, bB, bC, bD, bE, bF, bG, bH, bI, bJ, bK, bL, bM, bN, bO, bP, bQ, bR, af, ag, ah, ai, aj, ak, al, am, an, ao, ap, aq, ar, au, av, aw, ax, ay, az, aA, aB, aC, aD, aE, aF, aG, aH, aI, aJ, aK, aL, aM, aN, aO, bS, bT, aP, aQ, aR, aS, aT, aU, aV, aW, aX, aY, aZ, a0, a1, a2, a3, a4, a5, a6, a7, a8, a9, ba, bb, bc, bd, be, bf, bg, bh, bi, bj, bU, bV)) fun gb =>
  (un8 gb fun gc gd ge gf gg gh gi gj gk =>
  un8 gk fun gl gm gn go gp gq gr gs gt =>
  un8 gt fun gu gv gw gx gy gz gA gB gC =>
  un8 gC fun gD gE gF gG gH gI gJ gK gL =>
  un8 gL fun gM gN gO gP gQ gR gS gT gU =>
  un8 gU fun gV gW gX gY gZ g0 g1 g2 g3 =>
  un8 g3 fun g4 g5 g6 g7 g8 g9 ha hb hc =>
  un8 hc fun hd he hf hg hh hi hj hk hl =>
  un8 hl fun hm hn ho hp hq hr hs ht hu =>
  un8 hu fun hv hw hx hy hz hA hB hC hD =>
  un8 hD fun hE hF hG hH hI hJ hK hL hM =>
  un8 hM fun hN hO hP hQ hR hS hT hU hV =>
  un hV fun hW hX =>
  (Option.bind (f3 (gc, gf, gg, gh, gi, gj, gl, gm, gn, go, gp, gq, gr, gs, hW, hX)) fun hY =>
  (un8 hY fun hZ h0 h1 h2 h3 h4 h5 h6 h7 =>
  un h7 fun h8 h9 =>
  un h9 fun ia ib =>
  un ib fun ic id =>
  un id fun ie ig =>
  un ig fun ih ii =>
  un ii fun ij ik =>
  un ik fun il im =>
  (some (.inl (hZ, gd, ge, h0, h1, h2, h3, h4, h5, h6, h8, ia, ic, ie, ih, ij, gu, gv, gw, gx, gy, gz, gA, gB, gD, gE, gF, gG, gH, gI, gJ, gK, gM, gN, gO, gP, gQ, gR, gS, gT, gV, gW, gX, gY, gZ, g0, g1, g2, g4, g5, g6, g7, g8, g9, ha, hb, hd, he, hf, hg, hh, hi, hj, hk, hm, hn, ho, hp, hq, hr, hs, ht, hv, hw, hx, hy, hz, hA, hB, hC, hE, hF, hG, hH, hI, hJ, hK, hL, hN, hO, hP, hQ, hR, hS, hT, hU, il, im)))))))
  (some (.inl (bq, b, a.2.1, br, bs, bt, bu, bv, bw, bx, bz, bA, bB, bC, bD, bE, bF, bG, bH, bI, bJ, bK, bL, bM, bN, bO, bP, bQ, bR, af, ag, ah, ai, aj, ak, al, am, an, ao, ap, aq, ar, au, av, aw, ax, ay, az, aA, aB, aC, aD, aE, aF, aG, aH, aI, aJ, aK, aL, aM, aN, aO, bS, bT, aP, aQ, aR, aS, aT, aU, aV, aW, aX, aY, aZ, a0, a1, a2, a3, a4, a5, a6, a7, a8, a9, ba, bb, bc, bd, be, bf, bg, bh, bi, bj, bU, bV)))))
  | .inr io =>
  (match io with
  | .inl ip =>
  (un8 ip fun iq ir is it iu iv iw ix iy =>
  un8 iy fun iz iA iB iC iD iE iF iG iH =>
  un8 iH fun iI iJ iK iL iM iN iO iP iQ =>
  un iQ fun iR iS =>
  un iS fun iT iU =>
  un iU fun iV iW =>
  un iW fun iX iY =>
  un iY fun iZ i0 =>
  un i0 fun i1 i2 =>
  (some (.inr (.inl (iq, b, a.2.1, ir, is, it, iu, iv, iw, ix, iz, iA, iB, iC, iD, iE, iF, iG, iI, iJ, iK, iL, iM, iN, iO, iP, iR, iT, iV, af, ag, ah, ai, aj, ak, al, am, an, ao, ap, aq, ar, au, av, aw, ax, ay, az, aA, aB, aC, aD, aE, aF, aG, aH, aI, aJ, aK, aL, aM, aN, aO, iX, iZ, aP, aQ, aR, aS, aT, aU, aV, aW, aX, aY, aZ, a0, a1, a2, a3, a4, a5, a6, a7, a8, a9, ba, bb, bc, bd, be, bf, bg, bh, bi, bj, i1, i2)))))
  | .inr i3 =>
  (match i3 with
  | .inl i4 =>
  (un8 i4 fun i5 i6 i7 i8 i9 ja jb jc jd =>
  un8 jd fun je jf jg jh ji jj jk jl jm =>
  un8 jm fun jn jo jp jq jr js jt ju jv =>
  un jv fun jw jx =>
  un jx fun jy jz =>
  un jz fun jA jB =>
  un jB fun jC jD =>
  un jD fun jE jF =>
  un jF fun jG jH =>
  (some (.inl (i5, b, a.2.1, i6, i7, i8, i9, ja, jb, jc, je, jf, jg, jh, ji, jj, jk, jl, jn, jo, jp, jq, jr, js, jt, ju, jw, jy, jA, af, ag, ah, ai, aj, ak, al, am, an, ao, ap, aq, ar, au, av, aw, ax, ay, az, aA, aB, aC, aD, aE, aF, aG, aH, aI, aJ, aK, aL, aM, aN, aO, jC, jE, aP, aQ, aR, aS, aT, aU, aV, aW, aX, aY, aZ, a0, a1, a2, a3, a4, a5, a6, a7, a8, a9, ba, bb, bc, bd, be, bf, bg, bh, bi, bj, jG, jH))))
  | .inr jI =>
  (match jI with
  | .inl jJ =>
  (un8 jJ fun jK jL jM jN jO jP jQ jR jS =>
  un8 jS fun jT jU jV jW jX jY jZ j0 j1 =>
  un8 j1 fun j2 j3 j4 j5 j6 j7 j8 j9 ka =>
  un ka fun kb kc =>
  un kc fun kd ke =>
  un ke fun kf kg =>
  un kg fun kh ki =>
  un ki fun kj kk =>
  un kk fun kl km =>
  (some (.inr (.inr (.inl (jK, b, a.2.1, jL, jM, jN, jO, jP, jQ, jR, jT, jU, jV, jW, jX, jY, jZ, j0, j2, j3, j4, j5, j6, j7, j8, j9, kb, kd, kf, af, ag, ah, ai, aj, ak, al, am, an, ao, ap, aq, ar, au, av, aw, ax, ay, az, aA, aB, aC, aD, aE, aF, aG, aH, aI, aJ, aK, aL, aM, aN, aO, kh, kj, aP, aQ, aR, aS, aT, aU, aV, aW, aX, aY, aZ, a0, a1, a2, a3, a4, a5, a6, a7, a8, a9, ba, bb, bc, bd, be, bf, bg, bh, bi, bj, kl, km))))))
  | .inr kn =>
  (un8 kn fun ko kp kq kr ks kt ku kv kw =>
  un8 kw fun kx ky kz kA kB kC kD kE kF =>
  un8 kF fun kG kH kI kJ kK kL kM kN kO =>
  un kO fun kP kQ =>
  un kQ fun kR kS =>
  un kS fun kT kU =>
  un kU fun kV kW =>
  un kW fun kX kY =>
  un kY fun kZ k0 =>
  (some (.inr (.inr (.inr ((ko, b, a.2.1, kp, kq, kr, ks, kt, ku, kv, kx, ky, kz, kA, kB, kC, kD, kE, kG, kH, kI, kJ, kK, kL, kM, kN, kP, kR, kT, af, ag, ah, ai, aj, ak, al, am, an, ao, ap, aq, ar, au, av, aw, ax, ay, az, aA, aB, aC, aD, aE, aF, aG, aH, aI, aJ, aK, aL, aM, aN, aO, kV, kX, aP, aQ, aR, aS, aT, aU, aV, aW, aX, aY, aZ, a0, a1, a2, a3, a4, a5, a6, a7, a8, a9, ba, bb, bc, bd, be, bf, bg, bh, bi, bj, kZ, k0)))))))))))) : Option ((Ty8) ⊕ (Ty8) ⊕ (Ty8) ⊕ (Ty8)))
  fun k1 =>
  (match k1 with
  | .inl k2 =>
  (un8 k2 fun k3 k4 k5 k6 k7 k8 k9 la lb =>
  un8 lb fun lc ld le lf lg lh li lj lk =>
  un8 lk fun ll lm ln lo lp lq lr ls lt =>
  un8 lt fun lu lv lw lx ly lz lA lB lC =>
  un8 lC fun lD lE lF lG lH lI lJ lK lL =>
  un8 lL fun lM lN lO lP lQ lR lS lT lU =>
  un8 lU fun lV lW lX lY lZ l0 l1 l2 l3 =>
  un8 l3 fun l4 l5 l6 l7 l8 l9 ma mb mc =>
  un8 mc fun md me mf mg mh mi mj mk ml =>
  un8 ml fun mm mn mo mp mq mr ms mt mu =>
  un8 mu fun mv mw mx my mz mA mB mC mD =>
  un8 mD fun mE mF mG mH mI mJ mK mL mM =>
  un mM fun mN mO =>
  (Option.bind (f5 (k3, lz, lA, lB, lD, lE, lF, lG, lH, lI, lJ, lK, lM, lN, lO, lP, lQ, lR, mN, mO)) fun mP =>
  (un8 mP fun mQ mR mS mT mU mV mW mX mY =>
  un8 mY fun mZ m0 m1 m2 m3 m4 m5 m6 m7 =>
  un m7 fun m8 m9 =>
  un m9 fun na nb =>
  un nb fun nc nd =>
  (some (.inl (mQ, k4, k5, k6, k7, k8, k9, la, lc, ld, le, lf, lg, lh, li, lj, ll, lm, ln, lo, lp, lq, lr, ls, lu, lv, lw, lx, ly, mR, mS, mT, mU, mV, mW, mX, mZ, m0, m1, m2, m3, m4, m5, m6, m8, na, lS, lT, lV, lW, lX, lY, lZ, l0, l1, l2, l4, l5, l6, l7, l8, l9, ma, mb, md, me, mf, mg, mh, mi, mj, mk, mm, mn, mo, mp, mq, mr, ms, mt, mv, mw, mx, my, mz, mA, mB, mC, mE, mF, mG, mH, mI, mJ, mK, mL, nc, nd))))))
  | .inr ne =>
  (match ne with
  | .inl nf =>
  (un8 nf fun ng nh ni nj nk nl nm nn no =>
  un8 no fun np nq nr ns nt nu nv nw nx =>
  un8 nx fun ny nz nA nB nC nD nE nF nG =>
  un8 nG fun nH nI nJ nK nL nM nN nO nP =>
  un8 nP fun nQ nR nS nT nU nV nW nX nY =>
  un8 nY fun nZ n0 n1 n2 n3 n4 n5 n6 n7 =>
  un8 n7 fun n8 n9 oa ob oc od oe og oh =>
  un8 oh fun oi oj ok ol om on oo op oq =>
  un8 oq fun os ot ou ov ow ox oy oz oA =>
  un8 oA fun oB oC oD oE oF oG oH oI oJ =>
  un8 oJ fun oK oL oM oN oO oP oQ oR oS =>
  un8 oS fun oT oU oV oW oX oY oZ o0 o1 =>
  un o1 fun o2 o3 =>
  (some (.inr ((ng, nh, ni, nj, nk, nl, nm, nn, np, nq, nr, ns, nt, nu, nv, nw, ny, nz, nA, nB, nC, nD, nE, nF, nH, nI, nJ, nK, nL, nM, nN, nO, nQ, nR, nS, nT, nU, nV, nW, nX, nZ, n0, n1, n2, n3, n4, n5, n6, n8, n9, oa, ob, oc, od, oe, og, oi, oj, ok, ol, om, on, oo, op, os, ot, ou, ov, ow, ox, oy, oz, oB, oC, oD, oE, oF, oG, oH, oI, oK, oL, oM, oN, oO, oP, oQ, oR, oT, oU, oV, oW, oX, oY, oZ, o0, o2, o3)))))
  | .inr o4 =>
  (match o4 with
  | .inl o5 =>
  (un8 o5 fun o6 o7 o8 o9 pa pb pc pd pe =>
  un8 pe fun pf pg ph pi pj pk pl pm pn =>
  un8 pn fun po pp pq pr ps pt pu pv pw =>
  un8 pw fun px py pz pA pB pC pD pE pF =>
  un8 pF fun pG pH pI pJ pK pL pM pN pO =>
  un8 pO fun pP pQ pR pS pT pU pV pW pX =>
  un8 pX fun pY pZ p0 p1 p2 p3 p4 p5 p6 =>
  un8 p6 fun p7 p8 p9 qa qb qc qd qe qf =>
  un8 qf fun qg qh qi qj qk ql qm qn qo =>
  un8 qo fun qp qq qr qs qt qu qv qw qx =>
  un8 qx fun qy qz qA qB qC qD qE qF qG =>
  un8 qG fun qH qI qJ qK qL qM qN qO qP =>
  un qP fun qQ qR =>
  (Option.bind (f3 (o6, o9, pa, pb, pc, pd, pf, pg, ph, pi, pj, pk, pl, pm, qQ, qR)) fun qS =>
  (un8 qS fun qT qU qV qW qX qY qZ q0 q1 =>
  un q1 fun q2 q3 =>
  un q3 fun q4 q5 =>
  un q5 fun q6 q7 =>
  un q7 fun q8 q9 =>
  un q9 fun ra rb =>
  un rb fun rc rd =>
  un rd fun re rf =>
  (Option.bind (f5 (qT, pC, pD, pE, pG, pH, pI, pJ, pK, pL, pM, pN, pP, pQ, pR, pS, pT, pU, re, rf)) fun rg =>
  (un8 rg fun rh ri rj rk rl rm rn ro rp =>
  un8 rp fun rq rr rs rt ru rv rw rx ry =>
  un ry fun rz rA =>
  un rA fun rB rC =>
  un rC fun rD rE =>
  (some (.inl (rh, o7, o8, qU, qV, qW, qX, qY, qZ, q0, q2, q4, q6, q8, ra, rc, po, pp, pq, pr, ps, pt, pu, pv, px, py, pz, pA, pB, ri, rj, rk, rl, rm, rn, ro, rq, rr, rs, rt, ru, rv, rw, rx, rz, rB, pV, pW, pY, pZ, p0, p1, p2, p3, p4, p5, p7, p8, p9, qa, qb, qc, qd, qe, qg, qh, qi, qj, qk, ql, qm, qn, qp, qq, qr, qs, qt, qu, qv, qw, qy, qz, qA, qB, qC, qD, qE, qF, qH, qI, qJ, qK, qL, qM, qN, qO, rD, rE))))))))
  | .inr rF =>
  (un8 rF fun rG rH rI rJ rK rL rM rN rO =>
  un8 rO fun rP rQ rR rS rT rU rV rW rX =>
  un8 rX fun rY rZ r0 r1 r2 r3 r4 r5 r6 =>
  un8 r6 fun r7 r8 r9 sa sb sc sd se sf =>
  un8 sf fun sg sh si sj sk sl sm sn so =>
  un8 so fun sp sq sr ss st su sv sw sx =>
  un8 sx fun sy sz sA sB sC sD sE sF sG =>
  un8 sG fun sH sI sJ sK sL sM sN sO sP =>
  un8 sP fun sQ sR sS sT sU sV sW sX sY =>
  un8 sY fun sZ s0 s1 s2 s3 s4 s5 s6 s7 =>
  un8 s7 fun s8 s9 ta tb tc td te tf tg =>
  un8 tg fun th ti tj tk tl tm tn tp tq =>
  un tq fun tr ts =>
  (Option.bind (f3 (rG, rJ, rK, rL, rM, rN, rP, rQ, rR, rS, rT, rU, rV, rW, tr, ts)) fun tt =>
  (un8 tt fun tu tv tw tx ty tz tA tB tC =>
  un tC fun tD tE =>
  un tE fun tF tG =>
  un tG fun tH tI =>
  un tI fun tJ tK =>
  un tK fun tL tM =>
  un tM fun tN tO =>
  un tO fun tP tQ =>
  (some (.inl (tu, rH, rI, tv, tw, tx, ty, tz, tA, tB, tD, tF, tH, tJ, tL, tN, rY, rZ, r0, r1, r2, r3, r4, r5, r7, r8, r9, sa, sb, sc, sd, se, sg, sh, si, sj, sk, sl, sm, sn, sp, sq, sr, ss, st, su, sv, sw, sy, sz, sA, sB, sC, sD, sE, sF, sH, sI, sJ, sK, sL, sM, sN, sO, sQ, sR, sS, sT, sU, sV, sW, sX, sZ, s0, s1, s2, s3, s4, s5, s6, s8, s9, ta, tb, tc, td, te, tf, th, ti, tj, tk, tl, tm, tn, tp, tP, tQ)))))))))) : Option ((Ty8) ⊕ (Ty8)))
  fun tR =>
  (match tR with
  | .inl tS =>
  (un8 tS fun bW bl bm bX bY bZ b0 b1 tT =>
  un8 tT fun b2 b3 b4 b5 b6 b7 b8 b9 tU =>
  un8 tU fun ca cb cc cd ce cf cg ch tV =>
  un8 tV fun ci cj ck cl cm cn co cp tW =>
  un8 tW fun cq cr cs ct cu cv cw cx tX =>
  un8 tX fun cy cz cA cB cC cD cE cF tY =>
  un8 tY fun cG cH cI cJ cK cL cM cN tZ =>
  un8 tZ fun cO cP cQ cR cS cT cU cV t0 =>
  un8 t0 fun cW cX cY cZ c0 c1 c2 c3 t1 =>
  un8 t1 fun c4 c5 c6 c7 c8 c9 da db t2 =>
  un8 t2 fun dc dd de df dg dh di dj t3 =>
  un8 t3 fun dk dl dm dn dp dq dr ds t4 =>
  un t4 fun dt du =>
  (Option.bind
  (cond (decide (bl = (14 : Int)))
  (Option.bind (f5 (bW, cE, cF, cG, cH, cI, cJ, cK, cL, cM, cN, cO, cP, cQ, cR, cS, cT, cU, dt, du)) fun t5 =>
  (un8 t5 fun t6 t7 t8 t9 ua ub uc ud ue =>
  un8 ue fun uf ug uh ui uj uk ul um uo =>
  un uo fun up uq =>
  un uq fun ur us =>
  un us fun ut uu =>
  (some (t6, t7, t8, t9, ua, ub, uc, ud, uf, ug, uh, ui, uj, uk, ul, um, up, ur, ut, uu))))
  (some (bW, cE, cF, cG, cH, cI, cJ, cK, cL, cM, cN, cO, cP, cQ, cR, cS, cT, cU, dt, du)))
  fun uv =>
  (un8 uv fun dv dw dx dy dz dA dB dC uw =>
  un8 uw fun dD dE dF dG dH dI dJ dK ux =>
  un ux fun dL uy =>
  un uy fun dM uz =>
  un uz fun dN dO =>
  (cond (decide (bm = (0 : Int)))
  (Option.bind (f6 (dv, bl, bm, bX, bY, bZ, b0, b1, b2, b3, b4, b5, b6, b7, b8, b9, ca, cb, cc, cd, ce, cf, cg, ch, ci, cj, ck, cl, cm, cn, co, cp, cq, cr, cs, ct, cu, cv, cw, cx, cy, cz, cA, cB, cC, cD, dw, dx, dy, dz, dA, dB, dC, dD, dE, dF, dG, dH, dI, dJ, dK, dL, dM, cV, cW, cX, cY, cZ, c0, c1, c2, c3, c4, c5, c6, c7, c8, c9, da, db, dc, dd, de, df, dg, dh, di, dj, dk, dl, dm, dn, dp, dq, dr, ds, dN, dO)) fun uA =>
  (un8 uA fun uB uC uD uE uF uG uH uI uJ =>
  un8 uJ fun uK uL uM uN uO uP uQ uR uS =>
  un8 uS fun uT uU uV uW uX uY uZ u0 u1 =>
  un8 u1 fun u2 u3 u4 u5 u6 u7 u8 u9 va =>
  un8 va fun vb vc vd ve vf vg vh vi vj =>
  un8 vj fun vk vl vm vn vo vp vq vr vs =>
  un8 vs fun vt vu vv vw vx vy vz vA vB =>
  un8 vB fun vC vD vE vF vG vH vI vJ vK =>
  un8 vK fun vL vM vN vO vP vQ vR vS vT =>
  un8 vT fun vU vV vW vX vY vZ v0 v1 v2 =>
  un8 v2 fun v3 v4 v5 v6 v7 v8 v9 wa wb =>
  un8 wb fun wc wd we wf wg wh wi wj wk =>
  un wk fun wl wm =>
  (some (uB, uC, uD, uE, uF, uG, uH, uI, uK, uL, uM, uN, uO, uP, uQ, uR, uT, uU, uV, uW, uX, uY, uZ, u0, u2, u3, u4, u5, u6, u7, u8, u9, vb, vc, vd, ve, vf, vg, vh, vi, vk, vl, vm, vn, vo, vp, vq, vr, vt, vu, vv, vw, vx, vy, vz, vA, vC, vD, vE, vF, vG, vH, vI, vJ, vL, vM, vN, vO, vP, vQ, vR, vS, vU, vV, vW, vX, vY, vZ, v0, v1, v3, v4, v5, v6, v7, v8, v9, wa, wc, wd, we, wf, wg, wh, wi, wj, wl, wm))))
  (some (dv, bl, bm, bX, bY, bZ, b0, b1, b2, b3, b4, b5, b6, b7, b8, b9, ca, cb, cc, cd, ce, cf, cg, ch, ci, cj, ck, cl, cm, cn, co, cp, cq, cr, cs, ct, cu, cv, cw, cx, cy, cz, cA, cB, cC, cD, dw, dx, dy, dz, dA, dB, dC, dD, dE, dF, dG, dH, dI, dJ, dK, dL, dM, cV, cW, cX, cY, cZ, c0, c1, c2, c3, c4, c5, c6, c7, c8, c9, da, db, dc, dd, de, df, dg, dh, di, dj, dk, dl, dm, dn, dp, dq, dr, ds, dN, dO))))))
  | .inr wn =>
  (un8 wn fun wo wp wq wr ws wt wu wv ww =>
  un8 ww fun wx wy wz wA wB wC wD wE wF =>
  un8 wF fun wG wH wI wJ wK wL wM wN wO =>
  un8 wO fun wP wQ wR wS wT wU wV wW wX =>
  un8 wX fun wY wZ w0 w1 w2 w3 w4 w5 w6 =>
  un8 w6 fun w7 w8 w9 xa xb xc xd xe xf =>
  un8 xf fun xg xh xi xj xk xl xm xn xo =>
  un8 xo fun xp xq xr xs xt xu xv xw xx =>
  un8 xx fun xy xz xA xB xC xD xE xF xG =>
  un8 xG fun xH xI xJ xK xL xM xN xO xP =>
  un8 xP fun xQ xR xS xT xU xV xW xX xY =>
  un8 xY fun xZ x0 x1 x2 x3 x4 x5 x6 x7 =>
  un x7 fun x8 x9 =>
  (some (wo, wp, wq, wr, ws, wt, wu, wv, wx, wy, wz, wA, wB, wC, wD, wE, wG, wH, wI, wJ, wK, wL, wM, wN, wP, wQ, wR, wS, wT, wU, wV, wW, wY, wZ, w0, w1, w2, w3, w4, w5, w7, w8, w9, xa, xb, xc, xd, xe, xg, xh, xi, xj, xk, xl, xm, xn, xp, xq, xr, xs, xt, xu, xv, xw, xy, xz, xA, xB, xC, xD, xE, xF, xH, xI, xJ, xK, xL, xM, xN, xO, xQ, xR, xS, xT, xU, xV, xW, xX, xZ, x0, x1, x2, x3, x4, x5, x6, x8, x9))))))))
def nfs_flow_res (N : Nat) (x : Ty102) : Option (Ty8) := nfs_flow_res_a N (nfs_flow_uint_v2 N) (nfs_flow_attr N) (nfs_flow_handle_v1 N) (nfs_flow_maybe N) (nfs_flow_fh N) (nfs_flow_wcc N) (nfs_flow_more N) x
abbrev Ty103 : Type := Int × Int × Bool × Int × Int × Int × Int × Int × Int × Int × Int × Int × Int × Int × Int × Bool × Int × Int × Int × Int × Int × Int × Int × Int × Int × Int × Int × Int × Bool × Int × Int × Int × Bool × Int × Int × Int × Int × Int × Int × Int × Int × Int × Int × Int × Int × Bool × Int × Int × Int × Bool × Int × Int × Int × Int × Int × Int × Int × Int × Int × Int × Int × Int × Bool × (List Int) × Int × (List UInt8) × Int × Bool × (List Int) × Int × Int × (List ((List UInt8) × (Int × (Int × Unit)))) × Int × Int × Int × Int × Int × Int × Int × Int × Int × Int × Int × Int × Int × Int × Int × Int × Int × Int × Int × Bool × Bool × Bool × Bool
def nfs_lays_api_NfsRes_a (N : Nat) (f0 : Unit → Option (Unit)) (f1 : Ty102 → Option (Ty8)) (f2 : Ty64) (f3 : Ty65) (x : Ty103) : Option (Bool × (List Int)) :=
  (un8 x fun d e f g h i j k l =>
  un8 l fun m n o p q r s t u =>
  un8 u fun v w y z aa ab ac ad ae =>
  un8 ae fun af ag ah ai aj ak al am an =>
  un8 an fun ao ap aq ar au av aw ax ay =>
  un8 ay fun az aA aB aC aD aE aF aG aH =>
  un8 aH fun aI aJ aK aL aM aN aO aP aQ =>
  un8 aQ fun aR aS aT aU aV aW aX aY aZ =>
  un8 aZ fun a0 a1 a2 a3 a4 a5 a6 a7 a8 =>
  un8 a8 fun a9 ba bb bc bd be bf bg bh =>
  un8 bh fun bi bj bk bl bm bn bo bp bq =>
  un bq fun br bs =>
  un bs fun bt bu =>
  un bu fun bv bw =>
  un bw fun bx bz =>
  un bz fun bA bB =>
  un bB fun bC bD =>
  (Option.bind (f0 ()) fun bU =>
  (Option.bind (f1 (false, d, e, f, g, h, i, j, k, m, n, o, p, q, r, s, t, v, w, y, z, aa, ab, ac, ad, af, ag, ah, ai, aj, ak, al, am, ao, ap, aq, ar, au, av, aw, ax, az, aA, aB, aC, aD, aE, aF, aG, aI, aJ, aK, aL, aM, aN, aO, aP, aR, aS, aT, aU, aV, aW, aX, aY, a0, a1, a2, a3, a4, a5, a6, a7, a9, ba, bb, bc, bd, be, bf, bg, bi, bj, bk, bl, bm, bn, bo, bp, br, bt, bv, bx, bA, bC, bD, (0 : Int))) fun bE =>
  (un8 bE fun bF bV bW bX bY bZ b0 b1 bG =>
  un8 bG fun b2 b3 b4 b5 b6 b7 b8 b9 bH =>
  un8 bH fun ca cb cc cd ce cf cg ch bI =>
  un8 bI fun ci cj ck cl cm cn co cp bJ =>
  un8 bJ fun cq cr cs ct cu cv cw cx bK =>
  un8 bK fun cy cz cA cB cC cD cE cF bL =>
  un8 bL fun cG cH cI cJ cK cL cM cN bM =>
  un8 bM fun cO cP cQ cR cS cT cU cV bN =>
  un8 bN fun cW cX cY cZ c0 c1 c2 c3 bO =>
  un8 bO fun c4 c5 c6 c7 c8 c9 da db bP =>
  un8 bP fun dc dd de df dg dh di dj bQ =>
  un8 bQ fun dk dl dm dn dp dq dr ds bR =>
  un bR fun bS bT =>
  (Option.bind
  (Option.bind (f2 (bS, bT)) fun a =>
  (cond (!bF)
  (Option.bind (f3 (a.1, a.2.1)) fun b =>
  (some ((decide (b.1 = (0 : Int))), b.2.1, b.2.2, a.2.2)))
  (some (false, a.1, a.2.1, a.2.2))))
  fun c =>
  (some (c.1, c.2.2.2)))))))
def nfs_lays_api_NfsRes (N : Nat) (x : Ty103) : Option (Bool × (List Int)) := nfs_lays_api_NfsRes_a N xdr_NewWriter (nfs_flow_res N) xdr_Writer_Bytes xdr_Writer_Why x
abbrev Ty104 : Type := Bool × Int × Int × Int × Int × Int × Int × Int × Int × Int × Int × Int × Int × Int × Int × Int × (List Int)
def nfs_flow_attr_v1_a (N : Nat) (f0 : Ty78) (f1 : Ty78) (f2 : Ty79) (f3 : Ty78) (x : Ty104) : Option (Ty104) :=
  (un8 x fun o p q r s t u v w =>
  un8 w fun y z aa ab ac ad ae af ag =>
  (Option.bind (f0 (o, (wrapF .u32 p), ad, ae, af, ag)) fun a =>
  (Option.bind
  (cond a.1
  (some true)
  (cond (!(decide (a.2.1 = (1 : Int))))
  (cond (!(decide (a.2.1 = (2 : Int))))
  (some (!(decide (a.2.1 = (5 : Int)))))
  (some false))
  (some false)))
  fun ah =>
  (Option.bind (f0 (ah, q, a.2.2.1, a.2.2.2.1, a.2.2.2.2.1, a.2.2.2.2.2)) fun b =>
  (Option.bind (f0 (b.1, r, b.2.2.1, b.2.2.2.1, b.2.2.2.2.1, b.2.2.2.2.2)) fun c =>
  (Option.bind (f0 (c.1, s, c.2.2.1, c.2.2.2.1, c.2.2.2.2.1, c.2.2.2.2.2)) fun d =>
  (Option.bind (f0 (d.1, t, d.2.2.1, d.2.2.2.1, d.2.2.2.2.1, d.2.2.2.2.2)) fun e =>
  (Option.bind (f1 (e.1, u, e.2.2.1, e.2.2.2.1, e.2.2.2.2.1, e.2.2.2.2.2)) fun f =>
  (Option.bind (f1 (f.1, v, f.2.2.1, f.2.2.2.1, f.2.2.2.2.1, f.2.2.2.2.2)) fun g =>
  (Option.bind (f2 ((0 : Int), g.1, (0 : Int), g.2.2.1, g.2.2.2.1, g.2.2.2.2.1, g.2.2.2.2.2)) fun h =>
  (Option.bind (f2 ((0 : Int), h.1, h.2.1, h.2.2.1, h.2.2.2.1, h.2.2.2.2.1, h.2.2.2.2.2)) fun n =>
  (Option.bind (f1 (n.1, y, n.2.2.1, n.2.2.2.1, n.2.2.2.2.1, n.2.2.2.2.2)) fun i =>
  (Option.bind (f1 (i.1, z, i.2.2.1, i.2.2.2.1, i.2.2.2.2.1, i.2.2.2.2.2)) fun j =>
  (Option.bind (f3 (j.1, aa, j.2.2.1, j.2.2.2.1, j.2.2.2.2.1, j.2.2.2.2.2)) fun k =>
  (Option.bind (f3 (k.1, ab, k.2.2.1, k.2.2.2.1, k.2.2.2.2.1, k.2.2.2.2.2)) fun l =>
  (Option.bind (f3 (l.1, ac, l.2.2.1, l.2.2.2.1, l.2.2.2.2.1, l.2.2.2.2.2)) fun m =>
  (some (m.1, (wrapF .i64 a.2.1), b.2.1, c.2.1, d.2.1, e.2.1, f.2.1, g.2.1, i.2.1, j.2.1, k.2.1, l.2.1, m.2.1, m.2.2.1, m.2.2.2.1, m.2.2.2.2.1, m.2.2.2.2.2))))))))))))))))))
def nfs_flow_attr_v1 (N : Nat) (x : Ty104) : Option (Ty104) := nfs_flow_attr_v1_a N (nfs_flow_uint_v1 N) (nfs_flow_hyper_v1 N) (nfs_flow_enum_v1 N) (nfs_flow_time_v1 N) x
def nfs_flow_maybe_v1_a (N : Nat) (f0 : Ty77) (f1 : Ty104 → Option (Ty104)) (x : Ty11) : Option (Ty11) :=
  (un8 x fun n o b c d e f g p =>
  un8 p fun h i j k l m q r s =>
  un s fun t u =>
  (Option.bind (f0 (n, o, q, r, t, u)) fun a =>
  (cond a.2.1
  (Option.bind (f1 (a.1, b, c, d, e, f, g, h, i, j, k, l, m, a.2.2.1, a.2.2.2.1, a.2.2.2.2.1, a.2.2.2.2.2)) fun v =>
  (un8 v fun w y z aa ab ac ad ae af =>
  un8 af fun ag ah ai aj ak al am an ao =>
  (some (w, a.2.1, y, z, aa, ab, ac, ad, ae, ag, ah, ai, aj, ak, al, am, an, ao))))
  (some (a.1, a.2.1, b, c, d, e, f, g, h, i, j, k, l, m, a.2.2.1, a.2.2.2.1, a.2.2.2.2.1, a.2.2.2.2.2)))))
def nfs_flow_maybe_v1 (N : Nat) (x : Ty11) : Option (Ty11) := nfs_flow_maybe_v1_a N (nfs_flow_bool_v1 N) (nfs_flow_attr_v1 N) x
def nfs_flow_fh_v1_a (N : Nat) (f0 : Ty77) (f1 : Ty84) (x : Ty14) : Option (Ty13) :=
  (un8 x fun bi c d e f g h i bj =>
  un8 bj fun j k l m n o p q bk =>
  un8 bk fun r s t u v w y z bl =>
  un8 bl fun aa ab ac ad ae af ag ah bm =>
  un8 bm fun ai aj ak al am an ao ap bn =>
  un8 bn fun aq ar au av aw ax ay az bo =>
  un8 bo fun aA aB aC aD aE aF aG aH bp =>
  un8 bp fun aI aJ aK aL aM aN aO bq br =>
  un8 br fun aP aQ aR aS aT aU aV aW bs =>
  un8 bs fun aX aY aZ a0 a1 a2 a3 a4 bt =>
  un8 bt fun a5 a6 a7 a8 a9 ba bb bc bu =>
  un8 bu fun bd be bf bg bh bv bw bx bz =>
  (Option.bind (f0 (bi, bq, bv, bw, bx, bz)) fun a =>
  (cond a.2.1
  (Option.bind (f1 (a.1, a.2.2.1, a.2.2.2.1, a.2.2.2.2.1, a.2.2.2.2.2)) fun b =>
  (some (b.1, c, d, e, f, g, h, i, j, k, l, m, n, o, p, q, r, s, t, u, v, w, y, z, aa, ab, ac, ad, ae, af, ag, ah, ai, aj, ak, al, am, an, ao, ap, aq, ar, au, av, aw, ax, ay, az, aA, aB, aC, aD, aE, aF, aG, aH, aI, aJ, aK, aL, aM, aN, aO, a.2.1, aP, aQ, aR, aS, aT, aU, aV, aW, aX, aY, aZ, a0, a1, a2, a3, a4, a5, a6, a7, a8, a9, ba, bb, bc, bd, be, bf, bg, bh, b.2.1, b.2.2.1, b.2.2.2.1, b.2.2.2.2.1, b.2.2.2.2.2)))
  (some (a.1, c, d, e, f, g, h, i, j, k, l, m, n, o, p, q, r, s, t, u, v, w, y, z, aa, ab, ac, ad, ae, af, ag, ah, ai, aj, ak, al, am, an, ao, ap, aq, ar, au, av, aw, ax, ay, az, aA, aB, aC, aD, aE, aF, aG, aH, aI, aJ, aK, aL, aM, aN, aO, a.2.1, aP, aQ, aR, aS, aT, aU, aV, aW, aX, aY, aZ, a0, a1, a2, a3, a4, a5, a6, a7, a8, a9, ba, bb, bc, bd, be, bf, bg, bh, a.2.2.1, a.2.2.2.1, a.2.2.2.2.1, a.2.2.2.2.2, ([] : List Int))))))
def nfs_flow_fh_v1 (N : Nat) (x : Ty14) : Option (Ty13) := nfs_flow_fh_v1_a N (nfs_flow_bool_v1 N) (nfs_flow_handle_v2 N) x
def nfs_flow_wcc_v1_a (N : Nat) (f0 : Ty77) (f1 : Ty78) (f2 : Ty78) (f3 : Ty11 → Option (Ty11)) (x : Ty15) : Option (Ty15) :=
  (un8 x fun i j f g h k l m n =>
  un8 n fun o p q r s t u v w =>
  un w fun y z =>
  un z fun aa ab =>
  un ab fun ac ad =>
  un ad fun ae af =>
  un af fun ag ah =>
  (Option.bind (f0 (i, j, ac, ae, ag, ah)) fun a =>
  (Option.bind
  (cond a.2.1
  (Option.bind (f1 (a.1, f, a.2.2.1, a.2.2.2.1, a.2.2.2.2.1, a.2.2.2.2.2)) fun c =>
  (Option.bind (f2 (c.1, g, c.2.2.1, c.2.2.2.1, c.2.2.2.2.1, c.2.2.2.2.2)) fun d =>
  (Option.bind (f2 (d.1, h, d.2.2.1, d.2.2.2.1, d.2.2.2.2.1, d.2.2.2.2.2)) fun e =>
  (some (e.1, c.2.1, d.2.1, e.2.1, e.2.2.1, e.2.2.2.1, e.2.2.2.2.1, e.2.2.2.2.2)))))
  (some (a.1, f, g, h, a.2.2.1, a.2.2.2.1, a.2.2.2.2.1, a.2.2.2.2.2)))
  fun b =>
  (Option.bind (f3 (b.1, k, l, m, o, p, q, r, s, t, u, v, y, aa, b.2.2.2.2.1, b.2.2.2.2.2.1, b.2.2.2.2.2.2.1, b.2.2.2.2.2.2.2)) fun ai =>
  (un8 ai fun aj ak al am an ao ap aq ar =>
  un8 ar fun au av aw ax ay az aA aB aC =>
  un aC fun aD aE =>
  (some (aj, a.2.1, b.2.1, b.2.2.1, b.2.2.2.1, ak, al, am, an, ao, ap, aq, au, av, aw, ax, ay, az, aA, aB, aD, aE)))))))
def nfs_flow_wcc_v1 (N : Nat) (x : Ty15) : Option (Ty15) := nfs_flow_wcc_v1_a N (nfs_flow_bool_v1 N) (nfs_flow_hyper_v1 N) (nfs_flow_time_v1 N) (nfs_flow_maybe_v1 N) x
def nfs_getEntry_a (N : Nat) (f0 : Ty69) (f1 : Ty82) (x : Int × Int × Int × (List Int)) : Option ((List UInt8) × Int × Int × Int × Int × Int × (List Int)) :=
  (Option.bind (f0 (x.1, x.2.1, x.2.2.1, x.2.2.2)) fun a =>
  (Option.bind (f1 ((255 : Int), a.2.1, a.2.2.1, a.2.2.2.1, a.2.2.2.2)) fun b =>
  (Option.bind (f0 (b.2.1, b.2.2.1, b.2.2.2.1, b.2.2.2.2)) fun c =>
  (some (b.1, a.1, c.1, c.2.1, c.2.2.1, c.2.2.2.1, c.2.2.2.2)))))
def nfs_getEntry (N : Nat) (x : Int × Int × Int × (List Int)) : Option ((List UInt8) × Int × Int × Int × Int × Int × (List Int)) := nfs_getEntry_a N (xdr_Reader_Hyper N) (xdr_Reader_Text N) x
abbrev Ty105 : Type := Int × Int × Int × (List Int) → Option ((List UInt8) × Int × Int × Int × Int × Int × (List Int))
def xdr_Chain_api_Entry_a0 (N : Nat) (f0 : Ty69) (f1 : Ty67) (f2 : Ty67) (f3 : Ty68) (f4 : Ty105) (next : Int × Int × Int × Int × (List Int) × (List ((List UInt8) × (Int × (Int × Unit)))) → Option ((Int × Int × Int × (List Int)) ⊕ (Int × Int × Int × (List Int) × (List ((List UInt8) × (Int × (Int × Unit))))))) (x : Int × Int × Int × Int × (List Int) × (List ((List UInt8) × (Int × (Int × Unit))))) : Option ((Int × Int × Int × (List Int)) ⊕ (Int × Int × Int × (List Int) × (List ((List UInt8) × (Int × (Int × Unit)))))) :=
  (Option.bind (f0 (x.2.1, x.2.2.1, x.2.2.2.1, x.2.2.2.2.1)) fun c =>
  (Option.bind (f1 (c.2.1, c.2.2.1, c.2.2.2.1, c.2.2.2.2)) fun d =>
  (Option.bind (f2 (d.2.1, d.2.2.1, d.2.2.2.1, d.2.2.2.2)) fun a =>
  (cond a.1
  (some (.inl (a.2.1, a.2.2.1, a.2.2.2.1, a.2.2.2.2)))
  (cond (!d.1)
  (some (.inr ((a.2.1, a.2.2.1, a.2.2.2.1, a.2.2.2.2, x.2.2.2.2.2))))
  (cond (decide (x.1 ≤ (((List.length x.2.2.2.2.2) : Nat) : Int)))
  (Option.bind (f3 ((1 : Int), c.1, a.2.1, a.2.2.1, a.2.2.2.1, a.2.2.2.2)) fun e =>
  (some (.inl (e.1, e.2.1, e.2.2.1, e.2.2.2))))
  (Option.bind (f4 (a.2.1, a.2.2.1, a.2.2.2.1, a.2.2.2.2)) fun b =>
  (let f : List ((List UInt8) × (Int × (Int × Unit))) := ([(b.1, (b.2.1, (b.2.2.1, ())))] : List ((List UInt8) × (Int × (Int × Unit))))
  (cond ((decide (1 ≤ (List.length f))) && (fits 32 ((List.length x.2.2.2.2.2) + (List.length (List.take 1 (List.drop 0 f))))))
  ((next (x.1, b.2.2.2.1, b.2.2.2.2.1, b.2.2.2.2.2.1, b.2.2.2.2.2.2, (x.2.2.2.2.2 ++ (List.take 1 (List.drop 0 f))))))
  none)))))))))
def xdr_Chain_api_Entry_b0 (N : Nat) (next : Int × Int × Int × Int × (List Int) × (List ((List UInt8) × (Int × (Int × Unit)))) → Option ((Int × Int × Int × (List Int)) ⊕ (Int × Int × Int × (List Int) × (List ((List UInt8) × (Int × (Int × Unit))))))) (x : Int × Int × Int × Int × (List Int) × (List ((List UInt8) × (Int × (Int × Unit))))) : Option ((Int × Int × Int × (List Int)) ⊕ (Int × Int × Int × (List Int) × (List ((List UInt8) × (Int × (Int × Unit)))))) := xdr_Chain_api_Entry_a0 N xdr_Reader_At (xdr_Reader_Bool N) xdr_Reader_bad xdr_Reader_fails (nfs_getEntry N) next x
def xdr_Chain_api_Entry_l0 (N : Nat) : Int × Int × Int × Int × (List Int) × (List ((List UInt8) × (Int × (Int × Unit)))) → Option ((Int × Int × Int × (List Int)) ⊕ (Int × Int × Int × (List Int) × (List ((List UInt8) × (Int × (Int × Unit)))))) := loopF (xdr_Chain_api_Entry_b0 N) N
def xdr_Chain_api_Entry_a (N : Nat) (f0 : Ty69) (f1 : Ty67) (f2 : Ty67) (f3 : Ty68) (f4 : Ty105) (x : Int × Int × Int × Int × (List Int)) : Option (Int × Int × Int × (List Int) × (List ((List UInt8) × (Int × (Int × Unit))))) :=
  (Option.bind (xdr_Chain_api_Entry_l0 N (x.1, x.2.1, x.2.2.1, x.2.2.2.1, x.2.2.2.2, ([] : List ((List UInt8) × (Int × (Int × Unit)))))) fun c =>
  (match c with
  | .inl b =>
  (some (b.1, b.2.1, b.2.2.1, b.2.2.2, ([] : List ((List UInt8) × (Int × (Int × Unit))))))
  | .inr a =>
  (some (a.1, a.2.1, a.2.2.1, a.2.2.2.1, a.2.2.2.2))))
def xdr_Chain_api_Entry (N : Nat) (x : Int × Int × Int × Int × (List Int)) : Option (Int × Int × Int × (List Int) × (List ((List UInt8) × (Int × (Int × Unit))))) := xdr_Chain_api_Entry_a N xdr_Reader_At (xdr_Reader_Bool N) xdr_Reader_bad xdr_Reader_fails (nfs_getEntry N) x
abbrev Ty106 : Type := Int × Int × Int × Int × (List Int) → Option (Int × Int × Int × (List Int) × (List ((List UInt8) × (Int × (Int × Unit)))))
def nfs_flow_entries_v1_a (N : Nat) (f0 : Ty106) (x : Bool × Int × Int × Int × (List Int)) : Option (Bool × Int × Int × Int × (List Int) × (List ((List UInt8) × (Int × (Int × Unit))))) :=
  (Option.bind (f0 ((64 : Int), x.2.1, x.2.2.1, x.2.2.2.1, x.2.2.2.2)) fun a =>
  (some (x.1, a.1, a.2.1, a.2.2.1, a.2.2.2.1, a.2.2.2.2)))
def nfs_flow_entries_v1 (N : Nat) (x : Bool × Int × Int × Int × (List Int)) : Option (Bool × Int × Int × Int × (List Int) × (List ((List UInt8) × (Int × (Int × Unit))))) := nfs_flow_entries_v1_a N (xdr_Chain_api_Entry N) x
end
end Go.Rf.W
