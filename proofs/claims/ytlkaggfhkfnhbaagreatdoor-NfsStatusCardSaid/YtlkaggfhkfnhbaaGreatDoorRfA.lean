/-
  A pure machine for Go values, memory and operations (plain data), what its runs are, and that single operations do what the model does.
-/
import GoSem.Core.Code
import GoSem.Core.View
import GoSem.Core.Region
import Derived.Calls
import Derived.Orders
import Derived.Laws.Sem
import Derived.Laws.Cells
import Derived.Laws.IdiomCopy
import Derived.Below
import GoSem.Dispatch
import Derived.Laws.Entries
import Derived.Laws.BytesString
set_option linter.unusedVariables false
namespace Go.Rf
open Go

/-- The types of errors: a number; of no number; a pointer to one that holds another. -/
def errT : Nat × Nat × Nat := (32, 46, 49)

/-- The kinds of what a row of memory may hold by value. -/
inductive EK where
  | int (k : IntKind)
  | bool
  | str
  | sl (k : EK)
  | arr (n : Nat) (k : EK)
  | pair (a b : EK)
  | unit
  deriving DecidableEq

@[reducible] def EK.T : EK → Type
  | .int _ => Int
  | .bool => Bool
  | .str => List UInt8
  | .sl k => List k.T
  | .arr _ k => List k.T
  | .pair a b => a.T × b.T
  | .unit => Unit

def EK.dflt : (k : EK) → k.T
  | .int _ => (0 : Int)
  | .bool => false
  | .str => ([] : List UInt8)
  | .sl _ => []
  | .arr n k => List.replicate n k.dflt
  | .pair a b => (a.dflt, b.dflt)
  | .unit => ()

def EK.size : EK → Nat
  | .int _ => 1
  | .bool => 1
  | .str => 1
  | .sl _ => 1
  | .arr n k => n * k.size
  | .pair a b => a.size + b.size
  | .unit => 0

/-- A place in a block of one's own: element i of size esz, cell j of it. -/
structure Ptr where
  id : Nat
  esz : Nat
  i : Nat
  j : Nat
  deriving DecidableEq

/-- What one cell may hold. 'slw': a slice of a whole block; 'rsl', 'rptr': of memory that nobody writes, by its content. -/
inductive AC where
  | int (k : IntKind) (n : Int)
  | bool (b : Bool)
  | str (s : List UInt8)
  | nilp
  | ptr (p : Ptr)
  | nils
  | slw (id esz : Nat)
  | sl (id esz off len : Nat) (cap : Option Nat)
  | rsl (k : EK) (l : List k.T)
  | rptr (k : EK) (x : k.T) (j : Nat)
  | fn (f : FuncId) (caps : List Ptr)
  | nilfn
  | unk
  | ub (p b : Bool)                     -- a truth value: b, unless p
  | row (id i : Nat)                    -- row i of a block of rows
  | prow (id i t : Nat)                 -- place t of row i of a block of rows
  | nili                                -- an interface that holds nothing
  | ierr (o : Bool) (e : Int) (d : Nat) -- an error of number e (o: of no number), in d others

inductive Seg where
  | one (c : AC)
  | arr (k : EK) (n : Option Nat) (l : List k.T)
  | acs (l : List AC)
  | deep (k : IntKind) (l : List (List Int))   -- slices whose memory is this block's, too

inductive AV where
  | one (c : AC)
  | agg (l : List Seg)

inductive TV where
  | av (v : AV)
  | tup (l : List AV)

def unkA : AV := .one .unk
def unkT : TV := .av (.one .unk)
abbrev one (c : AC) : TV := .av (.one c)

/-- How many cells; of a row without a set length: none. -/
def Seg.width : Seg → Option Nat
  | .one _ => some 1
  | .arr k (some n) _ => some (n * k.size)
  | .arr _ none _ => none
  | .acs _ => none
  | .deep _ _ => none

abbrev Hp := List (Option Seg × Bool)

/- Written so that the kernel runs them fast. -/
noncomputable def hget (H : Hp) (id : Nat) : Option Seg :=
  List.rec (motive := fun _ => Nat → Option Seg) (fun _ => none) (fun x _ ih n => Nat.rec (motive := fun _ => Option Seg) x.1 (fun m _ => ih m) n) H id

noncomputable def hlink (H : Hp) (id : Nat) : Bool :=
  List.rec (motive := fun _ => Nat → Bool) (fun _ => false) (fun x _ ih n => Nat.rec (motive := fun _ => Bool) x.2 (fun m _ => ih m) n) H id

theorem hget_def : ∀ (H : Hp) (id : Nat), hget H id = match H[id]? with | some (s, _) => s | none => none
  | [], _ => rfl
  | _ :: _, 0 => rfl
  | x :: H, n + 1 => by
    have h : hget (x :: H) (n + 1) = hget H n := rfl
    rw [h, hget_def H n]
    rfl

theorem hlink_def : ∀ (H : Hp) (id : Nat), hlink H id = match H[id]? with | some (_, b) => b | none => false
  | [], _ => rfl
  | _ :: _, 0 => rfl
  | x :: H, n + 1 => by
    have h : hlink (x :: H) (n + 1) = hlink H n := rfl
    rw [h, hlink_def H n]
    rfl

structure St where
  T : List TV
  H : Hp

/-! Numbers -/

/-- A remainder, taken with its sign (so written that it gets stuck at once where it is not a literal). -/
def signI (h : Nat) (m : Int) (r : Int) : Int :=
  match r with
  | .ofNat a => cond (Nat.ble h a) (Int.ofNat a - m) (Int.ofNat a)
  | .negSucc a => cond (Nat.ble h 0) (Int.negSucc a - m) (Int.negSucc a)

theorem signI_eq (h : Nat) (hp : 0 < h) (m r : Int) : signI h m r = if r < h then r else r - m := by
  cases r with
  | ofNat a =>
    simp only [signI]
    cases e : Nat.ble h a with
    | true =>
      have : h ≤ a := Nat.le_of_ble_eq_true e
      rw [if_neg (by simp only [Int.ofNat_eq_natCast]; omega)]
      rfl
    | false =>
      have : ¬ h ≤ a := fun x => by rw [Nat.ble_eq_true_of_le x] at e; cases e
      rw [if_pos (by simp only [Int.ofNat_eq_natCast]; omega)]
      rfl
  | negSucc a =>
    simp only [signI]
    cases e : Nat.ble h 0 with
    | true => have : h ≤ 0 := Nat.le_of_ble_eq_true e; omega
    | false =>
      rw [if_pos (by omega)]
      rfl

def wrapF : IntKind → Int → Int
  | .u8, n => n % 256
  | .u16, n => n % 65536
  | .u32, n => n % 4294967296
  | .u64, n => n % 18446744073709551616
  | .i8, n => signI 128 256 (n % 256)
  | .i16, n => signI 32768 65536 (n % 65536)
  | .i32, n => signI 2147483648 4294967296 (n % 4294967296)
  | .i64, n => signI 9223372036854775808 18446744073709551616 (n % 18446744073709551616)

theorem ifF_i8 (n : Int) : wrapF .i8 n = if n % 256 < 128 then n % 256 else n % 256 - 256 := signI_eq _ (by decide) _ _
theorem ifF_i16 (n : Int) : wrapF .i16 n = if n % 65536 < 32768 then n % 65536 else n % 65536 - 65536 := signI_eq _ (by decide) _ _
theorem ifF_i32 (n : Int) : wrapF .i32 n = if n % 4294967296 < 2147483648 then n % 4294967296 else n % 4294967296 - 4294967296 := signI_eq _ (by decide) _ _
theorem ifF_i64 (n : Int) : wrapF .i64 n = if n % 18446744073709551616 < 9223372036854775808 then n % 18446744073709551616 else n % 18446744073709551616 - 18446744073709551616 := signI_eq _ (by decide) _ _

def toU : IntKind → Int → Nat
  | .u8, n | .i8, n => (n % 256).toNat
  | .u16, n | .i16, n => (n % 65536).toNat
  | .u32, n | .i32, n => (n % 4294967296).toNat
  | .u64, n | .i64, n => (n % 18446744073709551616).toNat

def allU : IntKind → Nat
  | .u8 | .i8 => 255
  | .u16 | .i16 => 65535
  | .u32 | .i32 => 4294967295
  | .u64 | .i64 => 18446744073709551615

def bitsA : IntKind → Nat
  | .u8 | .i8 => 8
  | .u16 | .i16 => 16
  | .u32 | .i32 => 32
  | .u64 | .i64 => 64

def andG (k : IntKind) (x y : Int) : Int := wrapF k (Int.ofNat (Nat.land (toU k x) (toU k y)))
def orG (k : IntKind) (x y : Int) : Int := wrapF k (Int.ofNat (Nat.lor (toU k x) (toU k y)))
def xorG (k : IntKind) (x y : Int) : Int := wrapF k (Int.ofNat (Nat.xor (toU k x) (toU k y)))
def andNotG (k : IntKind) (x y : Int) : Int := wrapF k (Int.ofNat (Nat.land (toU k x) (Nat.xor (toU k y) (allU k))))
/-- As 'f x', but a run that does not know x stops here. -/
def onI {α : Type} (x : Int) (f : Int → α) : α :=
  match x with
  | .ofNat n => f (.ofNat n)
  | .negSucc n => f (.negSucc n)

theorem onI_eq {α : Type} (x : Int) (f : Int → α) : onI x f = f x := by cases x <;> rfl

def andF (k : IntKind) (x y : Int) : Int := onI x fun x => onI y fun y => andG k x y
def orF (k : IntKind) (x y : Int) : Int := onI x fun x => onI y fun y => orG k x y
def xorF (k : IntKind) (x y : Int) : Int := onI x fun x => onI y fun y => xorG k x y
def andNotF (k : IntKind) (x y : Int) : Int := onI x fun x => onI y fun y => andNotG k x y
theorem andF_def (k : IntKind) (x y : Int) : andF k x y = andG k x y := by simp only [andF, onI_eq]
theorem orF_def (k : IntKind) (x y : Int) : orF k x y = orG k x y := by simp only [orF, onI_eq]
theorem xorF_def (k : IntKind) (x y : Int) : xorF k x y = xorG k x y := by simp only [xorF, onI_eq]
theorem andNotF_def (k : IntKind) (x y : Int) : andNotF k x y = andNotG k x y := by simp only [andNotF, onI_eq]
def shlF (k : IntKind) (x y : Int) : Int := wrapF k (x * Int.ofNat (Nat.pow 2 (min y.toNat (bitsA k))))
def shrF (k : IntKind) (x y : Int) : Int := x.fdiv (Int.ofNat (Nat.pow 2 (min y.toNat (bitsA k))))

def strLess : List UInt8 → List UInt8 → Bool
  | _, [] => false
  | [], _ :: _ => true
  | a :: x, b :: y => a < b || (a == b && strLess x y)

/-- Are two values of a kind the same, by Go's '=='? (slices cannot be compared) -/
def EK.eqv : (k : EK) → k.T → k.T → Option Bool
  | .int _, x, y => some (decide ((x : Int) = y))
  | .bool, x, y => some (x == y)
  | .str, x, y => some (decide ((x : List UInt8) = y))
  | .sl _, _, _ => none
  | .arr _ (.int _), x, y => some (decide ((x : List Int) = y))
  | .arr _ _, _, _ => none
  | .pair a b, x, y => match a.eqv x.1 y.1, b.eqv x.2 y.2 with
    | some p, some q => some (p && q)
    | _, _ => none
  | .unit, _, _ => some true

/-! Types -/

inductive TD where
  | int (k : IntKind)
  | bool
  | str
  | ptr (e : Nat)
  | slice (e : Nat)
  | array (n e : Nat)
  | struct (fs : List (Nat × Nat))      -- offset, type
  | fn
  | other

structure TI where
  d : TD
  size : Nat
  bytes : Nat
  zero : List Seg
  ek : Option EK                        -- the kind of its values, where they are plain data

abbrev Tab := List (Option TI)

def tget (Γ : Tab) (t : Nat) : Option TI :=
  match Γ[t]? with
  | some x => x
  | none => none

def TD.isAgg : TD → Bool
  | .array .. => true
  | .struct _ => true
  | _ => false

/-! Rows of segments -/

def EK.segs : (k : EK) → k.T → List Seg
  | .int k, x => [.one (.int k x)]
  | .bool, x => [.one (.bool x)]
  | .str, x => [.one (.str x)]
  | .sl k, l => [.one (.rsl k l)]
  | .arr n k, l => [.arr k (some n) l]
  | .pair a b, x => a.segs x.1 ++ b.segs x.2
  | .unit, _ => []

/-- The value of a kind out of segments, and what is left of them. -/
def EK.ofSegs : (k : EK) → List Seg → Option (k.T × List Seg)
  | .int k, .one (.int k' n) :: r => if k' = k then some (n, r) else none
  | .bool, .one (.bool b) :: r => some (b, r)
  | .str, .one (.str s) :: r => some (s, r)
  | .sl k, .one (.rsl k' l) :: r => if h : k' = k then some (h ▸ l, r) else none
  | .sl _, .one .nils :: r => some ([], r)
  | .arr n k, .arr k' (some n') l :: r => if h : k' = k then (if n' = n then some (h ▸ l, r) else none) else none
  | .pair a b, s => match a.ofSegs s with
    | some (x, s') => match b.ofSegs s' with
      | some (y, s'') => some ((x, y), s'')
      | none => none
    | none => none
  | .unit, s => some ((), s)
  | _, _ => none

/-- 's' cells from cell 'j' on. -/
def segsAt : List Seg → Nat → Nat → Option (List Seg)
  | _, 0, 0 => some []
  | [], _, _ => none
  | g :: r, j, s => match g.width with
    | none => none
    | some w =>
      if j = 0 then (if w ≤ s then match segsAt r 0 (s - w) with | some l => some (g :: l) | none => none else none)
      else if w ≤ j then segsAt r (j - w) s else none

/-- Segments laid over others from cell 'j' on. -/
def segsPut : List Seg → Nat → List Seg → Option (List Seg)
  | z, 0, [] => some z
  | [], _, _ => none
  | g :: r, j + 1, p => match g.width with
    | none => none
    | some w => if w ≤ j + 1 then match segsPut r (j + 1 - w) p with | some l => some (g :: l) | none => none else none
  | g :: r, 0, q :: p => match g.width, q.width with
    | some w, some v => if w = v then match segsPut r 0 p with | some l => some (q :: l) | none => none else none
    | _, _ => none

def EK.setWhole (k : EK) (j : Nat) (s : List Seg) : Option k.T :=
  if j = 0 then (match k.ofSegs s with | some (y, []) => some y | _ => none) else none

/-- A component of an element set. -/
def EK.setAt : (k : EK) → k.T → Nat → List Seg → Option k.T
  | .pair a b, x, j, s => match (EK.pair a b).setWhole j s with
    | some y => some y
    | none =>
    if j < a.size then (match a.setAt x.1 j s with | some y => some (y, x.2) | none => none)
    else (match b.setAt x.2 (j - a.size) s with | some y => some (x.1, y) | none => none)
  | k, _, j, s => k.setWhole j s

def AV.segs : AV → List Seg
  | .one c => [.one c]
  | .agg l => l

def TV.segs? : TV → Option (List Seg)
  | .av v => some v.segs
  | .tup _ => none

def avOf (agg : Bool) (l : List Seg) : Option TV :=
  if agg then some (.av (.agg l)) else match l with
    | [.one c] => some (one c)
    | _ => none

/-! What one operation does -/

structure Eff where
  v : TV
  upd : List (Nat × Option Seg)
  new : List (Seg × Bool)

/-- 'run': what a call is asked; 'k': what is done with its answer; 'chk': what must hold; 'rd', 'wr': the blocks that it reads, writes; 'el': goes on, answer by answer. -/
structure OR where
  R : Type
  run : Option R
  k : R → Eff
  chk : Bool
  rd : List Nat
  wr : List Nat
  el : (β : Type) → R → (Eff → Option β) → Option β
  elk : ∀ (β : Type) (x : R) (f : Eff → Option β), el β x f = f (k x)

def OR.val (v : TV) : OR := ⟨Unit, some (), fun _ => ⟨v, [], []⟩, true, [], [], fun _ _ f => f ⟨v, [], []⟩, fun _ _ _ => rfl⟩
def OR.valc (v : TV) (c : Bool) : OR := ⟨Unit, some (), fun _ => ⟨v, [], []⟩, c, [], [], fun _ _ f => f ⟨v, [], []⟩, fun _ _ _ => rfl⟩
def OR.rdc (v : TV) (c : Bool) (id : Nat) : OR := ⟨Unit, some (), fun _ => ⟨v, [], []⟩, c, [id], [], fun _ _ f => f ⟨v, [], []⟩, fun _ _ _ => rfl⟩
def OR.eff (e : Eff) (c : Bool) (rd wr : List Nat) : OR := ⟨Unit, some (), fun _ => e, c, rd, wr, fun _ _ f => f e, fun _ _ _ => rfl⟩

section
variable (hg : Nat → Option Seg) (lk : Nat → Bool) (nid : Nat) (Γ : Tab)

def tdesc (t : Nat) : Option TD := match tget Γ t with | some i => some i.d | none => none
def tsize (t : Nat) : Option Nat := match tget Γ t with | some i => some i.size | none => none
def tagg (t : Nat) : Option Bool := match tget Γ t with | some i => some i.d.isAgg | none => none

/-- The segments of a variable of 'w' cells that begins at block 'id'. -/
def readSegs : Nat → Nat → Nat → Option (List Seg × List Nat)
  | 0, _, _ => none
  | n + 1, id, w => match hg id with
    | none => none
    | some g => match g.width with
      | none => none
      | some v =>
        if v = w then some ([g], [id])
        else if v < w then (if lk id then match readSegs n (id + 1) (w - v) with | some (l, ids) => some (g :: l, id :: ids) | none => none else none)
        else none

/-- Cells that stand alone. -/
def onesOf : List Seg → Option (List AC)
  | [] => some []
  | .one c :: r => match onesOf r with
    | some l => some (c :: l)
    | none => none
  | _ :: _ => none

def loadA (t : Nat) (c : AC) : Option OR :=
  match tget Γ t with
  | none => none
  | some ti => match c with
    | .ptr ⟨id, 0, 0, 0⟩ => match readSegs hg lk 400 id ti.size with
        | some (l, ids) => match avOf ti.d.isAgg l with
          | some v => some ⟨Unit, some (), fun _ => ⟨v, [], []⟩, true, ids, [], fun _ _ f => f ⟨v, [], []⟩, fun _ _ _ => rfl⟩
          | none => none
        | none => none
    | .ptr ⟨id, esz + 1, i, j⟩ => match hg id with
        | some (.arr k _ l) =>
          match segsAt (k.segs (l.getD i k.dflt)) j ti.size with
          | some s => match avOf ti.d.isAgg s with
            | some v => if esz + 1 = k.size then some (.rdc v (decide (i < l.length)) id) else none
            | none => none
          | none => none
        | some (.acs l) => if i * (esz + 1) + j + ti.size ≤ l.length then (match avOf ti.d.isAgg (((l.drop (i * (esz + 1) + j)).take ti.size).map .one) with
          | some v => some (.rdc v true id)
          | none => none) else none
        | some (.deep k l) => if esz = 0 && (j == 0 && (ti.size == 1 && !ti.d.isAgg)) then some (.rdc (one (.row id i)) (decide (i < l.length)) id) else none
        | _ => none
    | .prow id i j => match hg id with
        | some (.deep k l) => if ti.size == 1 && !ti.d.isAgg then some (.rdc (one (.int k ((l.getD i []).getD j 0))) (decide (j < (l.getD i []).length)) id) else none
        | _ => none
    | .rptr k x j => match segsAt (k.segs x) j ti.size with
      | some s => match avOf ti.d.isAgg s with
        | some v => some (.val v)
        | none => none
      | none => none
    | _ => none

def AC.solid : AC → Bool
  | .unk => false
  | .ub _ _ => false
  | .row _ _ => false
  | .prow _ _ _ => false
  | _ => true

/-- Is every cell known? -/
def solid : List Seg → Bool
  | [] => true
  | .one c :: r => c.solid && solid r
  | .arr _ _ _ :: r => solid r
  | .acs l :: r => l.all AC.solid && solid r
  | .deep _ _ :: _ => false

/-- Segments stored into blocks that lie side by side. -/
def storeSegs : Nat → List Seg → Option (List (Nat × Option Seg))
  | _, [] => some []
  | id, g :: r => match hg id with
    | none => none
    | some o => match g.width, o.width with
      | some w, some v =>
        if w = v then match r with
          | [] => some [(id, some g)]
          | _ => if lk id then match storeSegs (id + 1) r with | some u => some ((id, some g) :: u) | none => none else none
        else none
      | _, _ => none

def widths : List Seg → Option Nat
  | [] => some 0
  | g :: r => match g.width, widths r with
    | some a, some b => some (a + b)
    | _, _ => none

def storeA (t : Nat) (c : AC) (s : List Seg) : Option OR :=
  match tget Γ t with
  | none => none
  | some ti => match widths s with
    | none => none
    | some 0 => none
    | some (w + 1) => if w + 1 = ti.size then (match c with
      | .ptr ⟨id, 0, 0, 0⟩ => if solid s then (match storeSegs hg lk id s with
          | some u => some (.eff ⟨.tup [], u, []⟩ true [] (u.map (·.1)))
          | none => none) else none
      | .ptr ⟨id, esz + 1, i, j⟩ => match hg id with
          | some (.arr k n l) => if esz + 1 = k.size then (match k.setAt (l.getD i k.dflt) j s with
            | some x => some (.eff ⟨.tup [], [(id, some (.arr k n (l.set i x)))], []⟩ (decide (i < l.length)) [] [id])
            | none => none) else none
          | some (.acs l) => match s, j with
            | [.one c], 0 => if solid s then (if esz = 0 then (if i < l.length then some (.eff ⟨.tup [], [(id, some (.acs (l.set i c)))], []⟩ true [] [id]) else none) else none) else none
            | _, _ => none
          | _ => none
      | .prow id i j => match hg id with
          | some (.deep k l) => match s with
            | [.one (.int k' n)] => if k' = k then some (.eff ⟨.tup [], [(id, some (.deep k (l.set i ((l.getD i []).set j n))))], []⟩ (decide (j < (l.getD i []).length)) [] [id]) else none
            | _ => none
          | _ => none
      | _ => none) else none

def linked : List Seg → List (Seg × Bool)
  | [] => []
  | [g] => [(g, false)]
  | g :: r => (g, true) :: linked r

def boxA (s : List Seg) : OR := .eff ⟨one (.ptr ⟨nid, 0, 0, 0⟩), [], linked s⟩ true [] []

/-- A slice's block, element size, first element, length, capacity (where it is known), content. -/
def ownSl (c : AC) : Option (Nat × Nat × Nat × Nat × Option Nat × (k : EK) × List k.T) :=
  match c with
  | .slw id esz => match hg id with
    | some (.arr k none l) => if esz = k.size then some (id, esz, 0, l.length, none, ⟨k, l⟩) else none
    | _ => none
  | .sl id esz off len cap => match hg id with
    | some (.arr k _ l) => if esz = k.size then some (id, esz, off, len, cap, ⟨k, l⟩) else none
    | _ => none
  | _ => none

/-- The content of a slice (or of a string, as bytes), what must hold, the block that is read. -/
def content (k : EK) (c : AC) : Option (List k.T × Bool × List Nat) :=
  match c with
  | .nils => some ([], true, [])
  | .rsl k' l => if h : k' = k then some (h ▸ l, true, []) else none
  | .slw id esz => match hg id with
    | some (.arr k' none l) => if h : k' = k then (if esz = k'.size then some (h ▸ l, true, [id]) else none) else none
    | _ => none
  | .sl id esz off len _ => match hg id with
    | some (.arr k' _ l) => if h : k' = k then (if esz = k'.size then some (h ▸ ((l.drop off).take len), decide (off + len ≤ l.length), [id]) else none) else none
    | _ => none
  | .str s => if h : EK.int .u8 = k then some (h ▸ (s.map fun b => (b.toNat : Int)), true, []) else none
  | .row id i => match hg id with
    | some (.deep k' l) => if h : EK.int k' = k then some (h ▸ (l.getD i []), true, [id]) else none
    | _ => none
  | _ => none

/-- The content of a slice of a block of rows. -/
def contentD (k : EK) (c : AC) : Option (List k.T × Bool × List Nat) :=
  match c with
  | .slw id esz => match hg id with
    | some (.deep k' l) => if h : EK.sl (.int k') = k then (if esz = 1 then some (h ▸ l, true, [id]) else none) else none
    | _ => none
  | _ => none

def lenA (c : AC) : Option (Nat × List Nat) :=
  match c with
  | .str s => some (s.length, [])
  | .nils => some (0, [])
  | .rsl _ l => some (l.length, [])
  | .sl _ _ _ len _ => some (len, [])
  | .slw id _ => match hg id with
    | some (.arr _ none l) => some (l.length, [id])
    | some (.acs l) => some (l.length, [id])
    | some (.deep _ l) => some (l.length, [id])
    | _ => none
  | .row id i => match hg id with
    | some (.deep _ l) => some ((l.getD i []).length, [id])
    | _ => none
  | _ => none

def intA : TV → Option (IntKind × Int)
  | .av (.one (.int k n)) => some (k, n)
  | _ => none

def indexAddrA (t : Nat) (x : AC) (i : Int) : Option OR :=
  match tdesc Γ t with
  | some (.slice e) => match tsize Γ e with
    | none => none
    | some sz => match x with
      | .slw id esz => match lenA hg (.slw id esz) with
        | some (n, ids) => if esz = sz then some ⟨Unit, some (), fun _ => ⟨one (.ptr ⟨id, esz, i.toNat, 0⟩), [], []⟩, decide (0 ≤ i) && decide (i < n), ids, [], fun _ _ f => f ⟨one (.ptr ⟨id, esz, i.toNat, 0⟩), [], []⟩, fun _ _ _ => rfl⟩ else none
        | none => none
      | .sl id esz off len _ => if esz = sz then some (.valc (one (.ptr ⟨id, esz, i.toNat + off, 0⟩)) (decide (0 ≤ i) && decide (i < len))) else none
      | .rsl k l => if k.size = sz then some (.valc (one (.rptr k (l.getD i.toNat k.dflt) 0)) (decide (0 ≤ i) && decide (i < l.length))) else none
      | .row id i0 => match hg id with
        | some (.deep _ l) => if sz = 1 then some ⟨Unit, some (), fun _ => ⟨one (.prow id i0 i.toNat), [], []⟩, decide (0 ≤ i) && decide (i < (l.getD i0 []).length), [id], [], fun _ _ f => f ⟨one (.prow id i0 i.toNat), [], []⟩, fun _ _ _ => rfl⟩ else none
        | _ => none
      | _ => none
  | some (.array n e) => match tsize Γ e with
    | none => none
    | some sz => match x with
      | .ptr ⟨id, 0, 0, 0⟩ => match hg id with
          | some (.arr k (some m) _) => if k.size = sz then (if m = n then some ⟨Unit, some (), fun _ => ⟨one (.ptr ⟨id, sz, i.toNat, 0⟩), [], []⟩, decide (0 ≤ i) && decide (i < n), [id], [], fun _ _ f => f ⟨one (.ptr ⟨id, sz, i.toNat, 0⟩), [], []⟩, fun _ _ _ => rfl⟩ else none) else none
          | _ => none
      | _ => none
  | _ => none

def fieldAddrA (t : Nat) (x : AC) (f : Nat) : Option OR :=
  match tdesc Γ t with
  | some (.struct fs) => match fs[f]? with
    | none => none
    | some (off, _) => match x with
      | .ptr ⟨id, 0, 0, 0⟩ => match off with
          | 0 => some (.val (one (.ptr ⟨id, 0, 0, 0⟩)))
          | off + 1 => match readSegs hg lk 400 id (off + 1) with
            | some (l, ids) => if lk (id + l.length - 1) then some ⟨Unit, some (), fun _ => ⟨one (.ptr ⟨id + l.length, 0, 0, 0⟩), [], []⟩, true, ids, [], fun _ _ f => f ⟨one (.ptr ⟨id + l.length, 0, 0, 0⟩), [], []⟩, fun _ _ _ => rfl⟩ else none
            | none => none
      | .ptr ⟨id, esz + 1, i, j⟩ => some (.val (one (.ptr ⟨id, esz + 1, i, j + off⟩)))
      | .rptr k x j => some (.val (one (.rptr k x (j + off))))
      | _ => none
  | _ => none

def bnd (v : Option TV) (d : Nat) : Option (Int × Bool) :=
  match v with
  | none => some ((d : Int), true)
  | some v => match intA v with
    | some (_, n) => some (n, true)
    | none => none

def sliceA (t : Nat) (x : AC) (lo hi mx : Option TV) : Option OR :=
  match tdesc Γ t with
  | some .str => match x, mx with
    | .str s, none => match bnd lo 0, bnd hi s.length with
      | some (l, _), some (h, _) => some (.valc (one (.str ((s.drop l.toNat).take (h.toNat - l.toNat)))) (decide (0 ≤ l) && decide (l ≤ h) && decide (h ≤ s.length)))
      | _, _ => none
    | _, _ => none
  | some (.slice e) => match tsize Γ e with
    | none => none
    | some sz => match x with
      | .nils => match bnd lo 0, bnd hi 0, mx with
        | some (l, _), some (h, _), none => some (.valc (one .nils) (decide (l = 0) && decide (h = 0)))
        | _, _, _ => none
      | .rsl k l => match bnd lo 0, bnd hi l.length with
          | some (a, _), some (b, _) => if k.size = sz then (match mx with
            | none => some (.valc (one (.rsl k ((l.drop a.toNat).take (b.toNat - a.toNat)))) (decide (0 ≤ a) && decide (a ≤ b) && decide (b ≤ l.length)))
            | some mv => match intA mv, hi with
              | some (_, m), some _ => some (.valc (one (.rsl k ((l.drop a.toNat).take (b.toNat - a.toNat)))) (decide (0 ≤ a) && decide (a ≤ b) && decide (b ≤ m) && decide (m ≤ l.length)))
              | _, _ => none) else none
          | _, _ => none
      | .slw id esz => match lenA hg (.slw id esz) with
        | none => none
        | some (n, ids) => match bnd lo 0, bnd hi n with
          | some (a, _), some (b, _) => if esz = sz then (match mx with
            | none => some ⟨Unit, some (), fun _ => ⟨one (.sl id esz a.toNat (b.toNat - a.toNat) none), [], []⟩, decide (0 ≤ a) && decide (a ≤ b) && decide (b ≤ n), ids, [], fun _ _ f => f ⟨one (.sl id esz a.toNat (b.toNat - a.toNat) none), [], []⟩, fun _ _ _ => rfl⟩
            | some mv => match intA mv, hi with
              | some (_, m), some _ => some ⟨Unit, some (), fun _ => ⟨one (.sl id esz a.toNat (b.toNat - a.toNat) (some (m.toNat - a.toNat))), [], []⟩, decide (0 ≤ a) && decide (a ≤ b) && decide (b ≤ m) && decide (m ≤ n), ids, [], fun _ _ f => f ⟨one (.sl id esz a.toNat (b.toNat - a.toNat) (some (m.toNat - a.toNat))), [], []⟩, fun _ _ _ => rfl⟩
              | _, _ => none) else none
          | _, _ => none
      | .sl id esz off n cap => match bnd lo 0, bnd hi n with
          | some (a, _), some (b, _) => if esz = sz then (match mx with
            | none => some (.valc (one (.sl id esz (a.toNat + off) (b.toNat - a.toNat) (match cap with | some c => some (c - a.toNat) | none => none))) (decide (0 ≤ a) && decide (a ≤ b) && decide (b ≤ n)))
            | some mv => match intA mv, hi with
              | some (_, m), some _ => some (.valc (one (.sl id esz (a.toNat + off) (b.toNat - a.toNat) (some (m.toNat - a.toNat)))) (decide (0 ≤ a) && decide (a ≤ b) && decide (b ≤ m) && decide (m ≤ n)))
              | _, _ => none) else none
          | _, _ => none
      | _ => none
  | some (.array n e) => match tsize Γ e with
    | none => none
    | some sz => match x with
      | .ptr ⟨id, 0, 0, 0⟩ => match hg id with
          | some (.arr k (some m) _) => if k.size = sz then (if m = n then match bnd lo 0, bnd hi n, mx with
            | some (a, _), some (b, _), none => some ⟨Unit, some (), fun _ => ⟨one (.sl id sz a.toNat (b.toNat - a.toNat) (some (n - a.toNat))), [], []⟩, decide (0 ≤ a) && decide (a ≤ b) && decide (b ≤ n), [id], [], fun _ _ f => f ⟨one (.sl id sz a.toNat (b.toNat - a.toNat) (some (n - a.toNat))), [], []⟩, fun _ _ _ => rfl⟩
            | _, _, _ => none else none) else none
          | _ => none
      | _ => none
  | _ => none

/-- The bound below which no append outgrows the model's memory. -/
def fits (bytes n : Nat) : Bool := decide (n * bytes ≤ 35184372088832) && decide (bytes ≤ 1073741824) && decide (1 ≤ bytes)

/-- What is appended: its content, what must hold, what is read. -/
def appendY (k : EK) (bytes : Nat) (ys : List k.T) (c : Bool) (ids : List Nat) (x : AC) : Option OR :=
  match x with
  | .nils => some (.eff ⟨one (.slw nid k.size), [], [(.arr k none ys, false)]⟩ (c && fits bytes ys.length) ids [])
  | .slw id esz => match hg id with
    | some (.arr k' none l) => if h : k' = k then (if esz = k.size then some (.eff ⟨one (.slw nid k.size), [(id, none)], [(.arr k none ((h ▸ l) ++ ys), false)]⟩ (c && fits bytes (l.length + ys.length)) ids [id]) else none) else none
    | _ => none
  | .sl id esz off len cap => match hg id with
    | some (.arr k' _ l) => if h : k' = k then (if esz = k.size then (match cap with
      | some 0 => some (.eff ⟨one (.slw nid k.size), [], [(.arr k none ys, false)]⟩ (c && fits bytes ys.length) (id :: ids) [])
      | some (cp + 1) => some (.eff ⟨one (.slw nid k.size), [(id, none)], [(.arr k none (((h ▸ l : List k.T).drop off).take len ++ ys), false)]⟩ (c && decide (cp + 1 = len) && decide (off + len ≤ l.length) && fits bytes (len + ys.length)) ids [id])
      | none => some (.eff ⟨one (.slw nid k.size), [(id, none)], [(.arr k none ((h ▸ l : List k.T).drop off ++ ys), false)]⟩ (c && decide (off + len = l.length) && fits bytes (len + ys.length)) ids [id])) else none) else none
    | _ => none
  | _ => none

def appendA (st : Nat) (x y : AC) : Option OR :=
  match tdesc Γ st with
  | some (.slice e) => match tget Γ e with
    | none => none
    | some ti => match ti.ek with
      | none => none
      | some k => match content hg k y with
        | none => none
        | some (ys, c, ids) => appendY hg nid k ti.bytes ys c ids x
  | _ => none

/-- Rows of one's own behind rows of one's own. -/
def appendD (st : Nat) (x y : AC) : Option OR :=
  match tdesc Γ st with
  | some (.slice e) => match tget Γ e with
    | none => none
    | some ti => match ti.ek with
      | some (.sl (.int ke)) => match y with
        | .slw id2 1 => match hg id2 with
          | some (.deep k2 l2) => if k2 = ke then (match x with
            | .nils => some (.eff ⟨one (.slw nid 1), [(id2, none)], [(.deep ke l2, false)]⟩ (fits ti.bytes l2.length) [id2] [id2])
            | .slw id 1 => match hg id with
              | some (.deep k l) => if k = ke then (if id = id2 then none else some (.eff ⟨one (.slw nid 1), [(id, none), (id2, none)], [(.deep ke (l ++ l2), false)]⟩ (fits ti.bytes (l.length + l2.length)) [id, id2] [id, id2])) else none
              | _ => none
            | _ => none) else none
          | _ => none
        | _ => none
      | _ => none
  | _ => none

/-- So many zeros are appended. -/
def appendZ (st : Nat) (x : AC) (n : Int) : Option OR :=
  match tdesc Γ st with
  | some (.slice e) => match tget Γ e with
    | none => none
    | some ti => match ti.ek with
      | none => none
      | some k => appendY hg nid k ti.bytes (List.replicate n.toNat k.dflt) (decide (0 ≤ n) && fits ti.bytes n.toNat) [] x
  | _ => none

def copyA (dt : Nat) (x y : AC) : Option OR :=
  match tdesc Γ dt with
  | some (.slice e) => match tsize Γ e with
    | none => none
    | some sz => match ownSl hg x with
      | some (id, esz, off, len, _, ⟨k, l⟩) => match content hg k y with
        | some (ys, c, ids) => match hg id with
          | some (.arr _ n _) => if esz = sz then some (.eff ⟨one (.int .i64 ((min ys.length len : Nat) : Int)), [(id, some (.arr k n (l.take off ++ ys.take (min ys.length len) ++ l.drop (off + min ys.length len))))], []⟩
              (c && decide (off + len ≤ l.length)) (id :: ids) [id]) else none
          | _ => none
        | none => none
      | none => none
  | _ => none

def makeSliceA (t : Nat) (same : Bool) (l c : Int) : Option OR :=
  match tdesc Γ t with
  | some (.slice e) => match tget Γ e with
    | none => none
    | some ti => match ti.ek with
      | none => none
      | some k => some (.eff ⟨one (.slw nid k.size), [], [(.arr k none (List.replicate l.toNat k.dflt), false)]⟩
          (if same then decide (0 ≤ l) && fits ti.bytes l.toNat else decide (0 ≤ l) && decide (l ≤ c) && fits ti.bytes c.toNat) [] [])
  | _ => none

def partsK (k : EK) : List k.T → List (Nat × TV) → Option (List k.T)
  | l, [] => some l
  | l, (i, v) :: r => match v.segs? with
    | some s => match k.ofSegs s with
      | some (x, []) => if i < l.length then partsK k (l.set i x) r else none
      | _ => none
    | none => none

def partsC (sz : Nat) : List AC → List (Nat × TV) → Option (List AC)
  | l, [] => some l
  | l, (i, v) :: r => match v.segs? with
    | some s => match onesOf s with
      | some cs => if cs.all AC.solid && (decide (cs.length = sz) && decide (i * sz + sz ≤ l.length)) then partsC sz (l.take (i * sz) ++ cs ++ l.drop (i * sz + sz)) r else none
      | none => none
    | none => none

def buildSliceK (own : Bool) (k : Option EK) (len : Nat) (parts : List (Nat × TV)) : Option OR :=
  match k with
  | some k => match partsK k (List.replicate len k.dflt) parts with
    | some l => some (OR.eff ⟨one (cond own (.slw nid k.size) (.sl nid k.size 0 len (some len))), [], [(.arr k none l, false)]⟩ (decide (len * k.size ≤ 16777216)) [] [])
    | none => none
  | none => none

def buildSliceA (own : Bool) (t len : Nat) (parts : List (Nat × TV)) : Option OR :=
  match tdesc Γ t with
  | some (.slice e) => match tget Γ e with
    | none => none
    | some ti => match buildSliceK nid own ti.ek len parts with
      | some r => some r
      | none => match onesOf ti.zero with
        | some zs => match partsC ti.size (List.replicate len zs).flatten parts with
          | some l => if zs.length = ti.size && decide (0 < ti.size) then some (.eff ⟨one (.sl nid ti.size 0 len (some len)), [], [(.acs l, false)]⟩ (decide (len * ti.size ≤ 16777216)) [] []) else none
          | none => none
        | none => none
  | _ => none

/-- A slice of a block of one's own, to become a row: its kind, content, what must hold, the block. -/
def rowOf (c : AC) : Option (IntKind × List Int × Bool × Nat) :=
  match c with
  | .slw id 1 => match hg id with
    | some (.arr (.int k) none l) => some (k, l, true, id)
    | _ => none
  | .sl id 1 off len _ => match hg id with
    | some (.arr (.int k) _ l) => some (k, ((l : List Int).drop off).take len, decide (off + len ≤ (l : List Int).length), id)
    | _ => none
  | _ => none

/-- A literal of one row. -/
def buildSliceD (t len : Nat) (parts : List (Nat × TV)) : Option OR :=
  match tdesc Γ t with
  | some (.slice e) => match tget Γ e with
    | none => none
    | some ti => match ti.ek with
      | some (.sl (.int ke)) => match len, parts with
        | 1, [(0, .av (.one c))] => match rowOf hg c with
          | some (k, l, chk, id) => if k = ke then some (.eff ⟨one (.slw nid 1), [(id, none)], [(.deep k [l], false)]⟩ chk [id] [id]) else none
          | none => none
        | _, _ => none
      | _ => none
  | _ => none

def fieldsPut (fs : List (Nat × Nat)) : List Seg → List (Nat × TV) → Option (List Seg)
  | z, [] => some z
  | z, (i, v) :: r => match fs[i]?, v.segs? with
    | some (off, ty), some s => match widths s, tsize Γ ty with
      | some w, some sz => if solid s then (if w = sz then match segsPut z off s with
        | some z' => fieldsPut fs z' r
        | none => none else none) else none
      | _, _ => none
    | _, _ => none

def buildA (t : Nat) (parts : List (Nat × TV)) : Option OR :=
  match tget Γ t with
  | none => none
  | some ti => match ti.d with
    | .struct fs => match ti.zero with
      | [] => match fs, parts, ti.ek with
        | [], [], some .unit => some (.val (.av (.agg [])))
        | _, _, _ => none
      | g :: z => match fieldsPut Γ fs (g :: z) parts with
        | some s => some (.val (.av (.agg s)))
        | none => none
    | .array n e => match ti.ek, tsize Γ e with
      | some (.arr m k), some sz => if m = n then (if k.size = sz then (match partsK k (List.replicate m k.dflt) parts with
          | some l => some (.val (.av (.agg [.arr k (some m) l])))
          | none => none) else none) else none
      | _, _ => none
    | _ => none

/-- Is the value of a type? (of those that are compared with nil) -/
def kindOk : TD → AC → Bool
  | .ptr _, .nilp => true
  | .ptr _, .ptr _ => true
  | .ptr _, .rptr _ _ _ => true
  | .slice _, .nils => true
  | .slice _, .sl _ _ _ _ _ => true
  | .slice _, .rsl _ _ => true
  | .fn, .nilfn => true
  | .fn, .fn _ _ => true
  | _, _ => false

def cmpA (op : BinOp) (x y : Int) : Option AC :=
  match op with
  | .eql => some (.bool (decide (x = y)))
  | .neq => some (.bool (!decide (x = y)))
  | .lss => some (.bool (decide (x < y)))
  | .leq => some (.bool (decide (x ≤ y)))
  | .gtr => some (.bool (decide (y < x)))
  | .geq => some (.bool (decide (y ≤ x)))
  | _ => none

def intBin (op : BinOp) (k : IntKind) (x y : Int) : Option (AC × Bool) :=
  match op with
  | .add => some (.int k (wrapF k (x + y)), true)
  | .sub => some (.int k (wrapF k (x - y)), true)
  | .mul => some (.int k (wrapF k (x * y)), true)
  | .quo => some (.int k (wrapF k (x.tdiv y)), !decide (y = 0))
  | .rem => some (.int k (x.tmod y), !decide (y = 0))
  | .and => some (.int k (andF k x y), true)
  | .or => some (.int k (orF k x y), true)
  | .xor => some (.int k (xorF k x y), true)
  | .andNot => some (.int k (andNotF k x y), true)
  | .shl => none
  | .shr => none
  | op => match cmpA op x y with
    | some c => some (c, true)
    | none => none

def strBin (op : BinOp) (x y : List UInt8) : Option (AC × Bool) :=
  match op with
  | .add => some (.str (x ++ y), decide (x.length + y.length ≤ 9223372036854775807))
  | .eql => some (.bool (decide (x = y)), true)
  | .neq => some (.bool (!decide (x = y)), true)
  | .lss => some (.bool (strLess x y), true)
  | .leq => some (.bool (strLess x y || decide (x = y)), true)
  | .gtr => some (.bool (!(strLess x y || decide (x = y))), true)
  | .geq => some (.bool (!strLess x y), true)
  | _ => none

/-- Is it nil? (of an empty slice nobody knows) -/
def isNil : AC → Option AC
  | .nilp => some (.bool true)
  | .ptr _ => some (.bool false)
  | .rptr _ _ _ => some (.bool false)
  | .nils => some (.bool true)
  | .sl _ _ _ len _ => some (.ub (decide (len = 0)) false)
  | .rsl _ l => some (.ub (decide (l.length = 0)) false)
  | .nilfn => some (.bool true)
  | .fn _ _ => some (.bool false)
  | _ => none

def notA : AC → AC
  | .bool b => .bool (!b)
  | .ub p b => .ub p (!b)
  | c => c

def isNilLit : AC → Bool
  | .nilp => true
  | .nils => true
  | .nilfn => true
  | _ => false

def nilCmp (op : BinOp) (x y : AC) : Option (AC × Bool) :=
  match op with
  | .eql => if isNilLit y then (match isNil x with | some c => some (c, true) | none => none)
            else if isNilLit x then (match isNil y with | some c => some (c, true) | none => none) else none
  | .neq => if isNilLit y then (match isNil x with | some c => some (notA c, true) | none => none)
            else if isNilLit x then (match isNil y with | some c => some (notA c, true) | none => none) else none
  | _ => none

def nilCmpD (d : Option TD) (op : BinOp) (x y : AC) : Option (AC × Bool) :=
  match d with
  | some d => if kindOk d x && kindOk d y then nilCmp op x y else none
  | none => none

def intBinS (op : BinOp) (k k' : IntKind) (a b : Int) : Option (AC × Bool) :=
  match op with
  | .shl => some (.int k (shlF k a b), decide (0 ≤ b))
  | .shr => some (.int k (shrF k a b), decide (0 ≤ b))
  | op => if k = k' then intBin op k a b else none

def boolBin (d : Option TD) (op : BinOp) (a b : Bool) : Option (AC × Bool) :=
  match d, op with
  | some .bool, .eql => some (.bool (a == b), true)
  | some .bool, .neq => some (.bool (!(a == b)), true)
  | _, _ => none

def acBin (d : Option TD) (op : BinOp) (x y : AC) : Option (AC × Bool) :=
  match x, y with
  | .int k a, .int k' b => intBinS op k k' a b
  | .str a, .str b => strBin op a b
  | .bool a, .bool b => boolBin d op a b
  | x, y => nilCmpD d op x y

def binA (op : BinOp) (t : Nat) (x y : TV) : Option OR :=
  match x, y with
  | .av (.one a), .av (.one b) => match acBin (tdesc Γ t) op a b with
    | some (c, chk) => some (.valc (one c) chk)
    | none => none
  | .av (.agg a), .av (.agg b) => match tget Γ t with
    | some ti => match (if ti.d.isAgg then ti.ek else none) with
      | some k => match k.ofSegs a, k.ofSegs b with
        | some (x, []), some (y, []) => match k.eqv x y with
          | some e => match op with
            | .eql => some (.val (one (.bool e)))
            | .neq => some (.val (one (.bool (!e))))
            | _ => none
          | none => none
        | _, _ => none
      | none => none
    | none => none
  | _, _ => none

def unA (op : UnOp) (x : AC) : Option AC :=
  match op, x with
  | .neg, .int k n => some (.int k (wrapF k (0 - n)))
  | .xor, .int k n => some (.int k (xorF k (Int.ofNat (allU k)) n))
  | .not, .bool b => some (.bool (!b))
  | _, _ => none

def convA (src dst : Nat) (x : AC) : Option OR :=
  match tdesc Γ src, tdesc Γ dst, x with
  | some _, some (.int k), .int _ n => some (.val (one (.int k (wrapF k n))))
  | some .str, some .str, .str s => some (.val (one (.str s)))
  | some .str, some (.slice e), .str s => match tdesc Γ e with
    | some (.int .u8) => some (.eff ⟨one (.slw nid 1), [], [(.arr (.int .u8) none (s.map fun b => (b.toNat : Int)), false)]⟩ true [] [])
    | _ => none
  | some (.slice e), some .str, x => match tdesc Γ e, x with
    | some (.int .u8), .str _ => none
    | some (.int .u8), x => match content hg (.int .u8) x with
      | some (l, c, ids) => some ⟨Unit, some (), fun _ => ⟨one (.str (l.map fun (n : Int) => UInt8.ofNat n.toNat)), [], []⟩, c, ids, [], fun _ _ f => f ⟨one (.str (l.map fun (n : Int) => UInt8.ofNat n.toNat)), [], []⟩, fun _ _ _ => rfl⟩
      | none => none
    | _, _ => none
  | some (.slice _), some (.slice e), .sl id esz off len cap => match tdesc Γ e, hg id with
    | some (.int .u8), some _ => if src = dst then (if esz = 1 then some (.eff ⟨one (.sl id esz off len cap), [], []⟩ (decide (0 < len)) [id] [id]) else none) else none
    | _, _ => none
  | _, _, _ => none

def pickA (c : Bool) (a b : AC) : Option AC :=
  match a, b with
  | .bool x, .bool y => some (.bool (cond c x y))
  | .int k x, .int k' y => if k = k' then some (.int k (cond c x y)) else none
  | .str x, .str y => some (.str (cond c x y))
  | _, _ => none

def indexA (t : Nat) (x : TV) (i : Int) : Option OR :=
  match tdesc Γ t, x with
  | some .str, .av (.one (.str s)) => some (.valc (one (.int .u8 ((s.getD i.toNat 0).toNat : Int))) (decide (0 ≤ i) && decide (i < s.length)))
  | some (.array n e), .av (.agg [.arr k (some m) l]) => if m = n then (match tget Γ e with
    | some te => if te.size = k.size then (match avOf te.d.isAgg (k.segs (l.getD i.toNat k.dflt)) with
      | some v => some (.valc v (decide (0 ≤ i) && decide (i < n)))
      | none => none) else none
    | none => none) else none
  | _, _ => none

def fieldA (t : Nat) (x : TV) (f : Nat) : Option TV :=
  match tdesc Γ t, x with
  | some (.struct fs), .av (.agg s) => match fs[f]? with
    | some (off, ty) => match tget Γ ty with
      | some te => match segsAt s off te.size with
        | some l => avOf te.d.isAgg l
        | none => none
      | none => none
    | none => none
  | _, _ => none

end

/-! Leaves: what passes into and out of a call, a loop -/

inductive Leaf where
  | int (n : Int)
  | bool (b : Bool)
  | str (s : List UInt8)
  | lst (k : EK) (l : List k.T)
  | nat (n : Nat)

/-- The kinds of leaves, and rows of them as plain data. -/
inductive LK where
  | int
  | bool
  | str
  | lst (k : EK)
  | nat

@[reducible] def LK.T : LK → Type
  | .int => Int
  | .bool => Bool
  | .str => List UInt8
  | .lst k => List k.T
  | .nat => Nat

def LK.enc : (t : LK) → t.T → Leaf
  | .int, n => .int n
  | .bool, b => .bool b
  | .str, s => .str s
  | .lst k, l => .lst k l
  | .nat, n => .nat n

def LK.dec : (t : LK) → Leaf → Option t.T
  | .int, .int n => some n
  | .bool, .bool b => some b
  | .str, .str s => some s
  | .lst k, .lst k' l => if h : k' = k then some (h ▸ l) else none
  | .nat, .nat n => some n
  | _, _ => none

@[reducible] def PT : List LK → Type
  | [] => Unit
  | [t] => t.T
  | t :: u :: r => t.T × PT (u :: r)

def encP : (ts : List LK) → PT ts → List Leaf
  | [], _ => []
  | [t], x => [t.enc x]
  | t :: u :: r, x => t.enc x.1 :: encP (u :: r) x.2

def decP : (ts : List LK) → List Leaf → Option (PT ts)
  | [], [] => some ()
  | [t], [l] => t.dec l
  | t :: u :: r, l :: ls => match t.dec l with
    | some a => match decP (u :: r) ls with
      | some b => some (a, b)
      | none => none
    | none => none
  | _, _ => none

/-- One of several rows: which way out of a loop. -/
@[reducible] def SumT : List (List LK) → Type
  | [] => Empty
  | [t] => PT t
  | t :: u :: r => PT t ⊕ SumT (u :: r)

def sumK {R : Type} : (ots : List (List LK)) → Nat → SumT ots → (Nat → List Leaf → Option R) → Option R
  | [], _, _, _ => none
  | [t], i, x, f => f i (encP t x)
  | t :: u :: r, i, x, f => match x with
    | .inl y => f i (encP t y)
    | .inr y => sumK (u :: r) (i + 1) y f

/-- One of two ways, and nobody knows which, where 'p' holds: they must lead to the same. -/
noncomputable def agreeC {R : Type} (p b : Bool) (x y : Option R) : Option R :=
  cond p (@ite _ (x = y) (Classical.propDecidable _) x none) (cond b x y)

theorem agreeC_inv {R : Type} {p b : Bool} {x y : Option R} {r : R} (h : agreeC p b x y = some r) (v : Bool) (hv : p = false → v = b) : cond v x y = some r := by
  unfold agreeC at h
  cases p with
  | false => rw [hv rfl]; exact h
  | true =>
    simp only [cond_true] at h
    split at h <;> try (cases h; done)
    rename_i e
    subst e
    cases v <;> exact h

theorem agreeC_same {R : Type} {p b : Bool} {x : Option R} : agreeC p b x x = x := by
  unfold agreeC
  cases p with
  | false => cases b <;> rfl
  | true => simp

theorem agreeC_eq {R : Type} {p b : Bool} {x y z : Option R} (hx : x = z) (hy : y = z) : agreeC p b x y = z := by
  subst hx; subst hy; exact agreeC_same

theorem agreeC_known {R : Type} {b : Bool} {x y : Option R} : agreeC false b x y = cond b x y := rfl

/-- As 'sumK', without an end. -/
def sumV {α : Type} : (ots : List (List LK)) → Nat → SumT ots → (Nat → List Leaf → α) → α
  | [], _, x, _ => nomatch x
  | [t], i, x, f => f i (encP t x)
  | t :: u :: r, i, x, f => match x with
    | .inl y => f i (encP t y)
    | .inr y => sumV (u :: r) (i + 1) y f

theorem sumK_sumV {α β : Type} (g : Nat → List Leaf → α) (f : α → Option β) : ∀ (ots : List (List LK)) (i : Nat) (x : SumT ots), sumK ots i x (fun j lv => f (g j lv)) = f (sumV ots i x g)
  | [], _, x => nomatch x
  | [_], _, _ => rfl
  | t :: u :: r, i, x => match x with
    | .inl _ => rfl
    | .inr y => sumK_sumV g f (u :: r) (i + 1) y

theorem sumV_eq : ∀ (ots : List (List LK)) (n : Nat) (x : SumT ots), ∃ i lv, ∀ (α : Type) (f : Nat → List Leaf → α), sumV ots n x f = f i lv
  | [], _, x => nomatch x
  | [t], n, x => ⟨n, encP t x, fun _ _ => rfl⟩
  | t :: u :: r, n, x => match x with
    | .inl y => ⟨n, encP t y, fun _ _ => rfl⟩
    | .inr y => sumV_eq (u :: r) (n + 1) y

inductive Sh where
  | int (k : IntKind)
  | bool
  | str
  | rsl (k : EK)
  | rps (k : EK)                        -- a pointer to a slice in memory that nobody writes
  | sl (id esz : Nat)
  | pt (id esz j : Nat)                 -- a pointer to a place of an element
  | ierr (o : Bool)
  | const (c : AC)

inductive SegSh where
  | one (s : Sh)
  | arr (k : EK) (n : Option Nat)
  | acs (l : List Sh)
  | deep (k : IntKind)

inductive AVSh where
  | one (s : Sh)
  | agg (l : List SegSh)

inductive TVSh where
  | av (s : AVSh)
  | tup (l : List AVSh)

/-- A state's shape: temporaries, blocks (a dead one: none; the Bool: the next block lies right behind it). -/
structure SS where
  ts : List (Nat × TVSh)
  bs : List (Option SegSh × Bool)

def acEq : AC → AC → Bool
  | .int k n, .int k' n' => k == k' && n == n'
  | .bool b, .bool b' => b == b'
  | .nilp, .nilp => true
  | .ptr p, .ptr q => p == q
  | .nils, .nils => true
  | .slw a b, .slw c d => a == c && b == d
  | .fn f c, .fn g d => f == g && c == d
  | .nilfn, .nilfn => true
  | .nili, .nili => true
  | _, _ => false

def projSh : Sh → AC → Option (List Leaf)
  | .int k, .int k' n => if k' = k then some [.int n] else none
  | .bool, .bool b => some [.bool b]
  | .str, .str s => some [.str s]
  | .rsl k, .rsl k' l => if h : k' = k then some [.lst k (h ▸ l)] else none
  | .rsl k, .nils => some [.lst k []]
  | .rps k, .rptr (.sl k') l 0 => if h : k' = k then some [.lst k (h ▸ (l : List k'.T))] else none
  | .sl id esz, .sl id' esz' off len _ => if id' = id then (if esz' = esz then some [.nat off, .nat len] else none) else none
  | .pt id esz j, .ptr ⟨id', esz', i, j'⟩ => if id' = id then (if esz' = esz then (if j' = j then some [.nat i] else none) else none) else none
  | .ierr o, .ierr o' e d => if o' = o then some [.int e, .nat d] else none
  | .const .unk, _ => some []
  | .const c, c' => if acEq c c' then some [] else none
  | _, _ => none

def projShs : List Sh → List AC → Option (List Leaf)
  | [], [] => some []
  | s :: r, c :: cs => match projSh s c with
    | some a => match projShs r cs with
      | some b => some (a ++ b)
      | none => none
    | none => none
  | _, _ => none

def projSeg : SegSh → Seg → Option (List Leaf)
  | .one s, .one c => projSh s c
  | .arr k n, .arr k' n' l => if h : k' = k then (if n' = n then some [.lst k (h ▸ l)] else none) else none
  | .acs l, .acs cs => projShs l cs
  | .deep k, .deep k' l => if k' = k then some [.lst (.sl (.int k)) l] else none
  | _, _ => none

def projSegs : List SegSh → List Seg → Option (List Leaf)
  | [], [] => some []
  | s :: r, c :: cs => match projSeg s c with
    | some a => match projSegs r cs with
      | some b => some (a ++ b)
      | none => none
    | none => none
  | _, _ => none

def projAV : AVSh → AV → Option (List Leaf)
  | .one s, .one c => projSh s c
  | .agg l, .agg g => projSegs l g
  | _, _ => none

def projAVs : List AVSh → List AV → Option (List Leaf)
  | [], [] => some []
  | s :: r, c :: cs => match projAV s c with
    | some a => match projAVs r cs with
      | some b => some (a ++ b)
      | none => none
    | none => none
  | _, _ => none

def projTV : TVSh → TV → Option (List Leaf)
  | .av s, .av v => projAV s v
  | .tup l, .tup g => projAVs l g
  | _, _ => none

def projTs (T : List TV) : List (Nat × TVSh) → Option (List Leaf)
  | [] => some []
  | (t, s) :: r => match projTV s (T.getD t unkT) with
    | some a => match projTs T r with
      | some b => some (a ++ b)
      | none => none
    | none => none

def projBs : List (Option SegSh × Bool) → Hp → Option (List Leaf)
  | [], [] => some []
  | (none, _) :: r, _ :: H => projBs r H
  | (some s, lb) :: r, (some g, lg) :: H => if !lb || lg then (match projSeg s g with
    | some a => match projBs r H with
      | some b => some (a ++ b)
      | none => none
    | none => none) else none
  | _, _ => none

def projSt (s : SS) (st : St) : Option (List Leaf) :=
  match projTs st.T s.ts with
  | some a => match projBs s.bs st.H with
    | some b => some (a ++ b)
    | none => none
  | none => none

def embSh : Sh → List Leaf → Option (AC × List Leaf)
  | .int k, .int n :: r => some (.int k n, r)
  | .bool, .bool b :: r => some (.bool b, r)
  | .str, .str s :: r => some (.str s, r)
  | .rsl k, .lst k' l :: r => if h : k' = k then some (.rsl k (h ▸ l), r) else none
  | .rps k, .lst k' l :: r => if h : k' = k then some (.rptr (.sl k) (h ▸ l : List k.T) 0, r) else none
  | .sl id esz, .nat off :: .nat len :: r => some (.sl id esz off len none, r)
  | .pt id esz j, .nat i :: r => some (.ptr ⟨id, esz, i, j⟩, r)
  | .ierr o, .int e :: .nat d :: r => some (.ierr o e d, r)
  | .const c, r => some (c, r)
  | _, _ => none

def embShs : List Sh → List Leaf → Option (List AC × List Leaf)
  | [], r => some ([], r)
  | s :: ss, r => match embSh s r with
    | some (c, r') => match embShs ss r' with
      | some (cs, r'') => some (c :: cs, r'')
      | none => none
    | none => none

def embSeg : SegSh → List Leaf → Option (Seg × List Leaf)
  | .one s, r => match embSh s r with
    | some (c, r') => some (.one c, r')
    | none => none
  | .arr k n, .lst k' l :: r => if h : k' = k then some (.arr k n (h ▸ l), r) else none
  | .acs l, r => match embShs l r with
    | some (cs, r') => some (.acs cs, r')
    | none => none
  | .deep k, .lst k' l :: r => if h : k' = .sl (.int k) then some (.deep k (h ▸ l : List (EK.sl (.int k)).T), r) else none
  | _, _ => none

def embSegs : List SegSh → List Leaf → Option (List Seg × List Leaf)
  | [], r => some ([], r)
  | s :: ss, r => match embSeg s r with
    | some (c, r') => match embSegs ss r' with
      | some (cs, r'') => some (c :: cs, r'')
      | none => none
    | none => none

def embAV : AVSh → List Leaf → Option (AV × List Leaf)
  | .one s, r => match embSh s r with
    | some (c, r') => some (.one c, r')
    | none => none
  | .agg l, r => match embSegs l r with
    | some (g, r') => some (.agg g, r')
    | none => none

def embAVs : List AVSh → List Leaf → Option (List AV × List Leaf)
  | [], r => some ([], r)
  | s :: ss, r => match embAV s r with
    | some (c, r') => match embAVs ss r' with
      | some (cs, r'') => some (c :: cs, r'')
      | none => none
    | none => none

def embTV : TVSh → List Leaf → Option (TV × List Leaf)
  | .av s, r => match embAV s r with
    | some (v, r') => some (.av v, r')
    | none => none
  | .tup l, r => match embAVs l r with
    | some (v, r') => some (.tup v, r')
    | none => none

def embTs : List TV → List (Nat × TVSh) → List Leaf → Option (List TV × List Leaf)
  | T, [], r => some (T, r)
  | T, (t, s) :: ss, r => match embTV s r with
    | some (v, r') => embTs (T.set t v) ss r'
    | none => none

def embBs : List (Option SegSh × Bool) → List Leaf → Option (Hp × List Leaf)
  | [], r => some ([], r)
  | (none, lb) :: ss, r => match embBs ss r with
    | some (H, r') => some ((none, lb) :: H, r')
    | none => none
  | (some s, lb) :: ss, r => match embSeg s r with
    | some (g, r') => match embBs ss r' with
      | some (H, r'') => some ((some g, lb) :: H, r'')
      | none => none
    | none => none

def embSt (n : Nat) (s : SS) (r : List Leaf) : Option St :=
  match embTs (List.replicate n unkT) s.ts r with
  | some (T, r') => match embBs s.bs r' with
    | some (H, []) => some ⟨T, H⟩
    | _ => none
  | none => none

end Go.Rf

set_option linter.unusedVariables false
namespace Go.Rf
open Go
noncomputable section

/-- The components of a row, to a function of theirs. -/
def un {A B R : Type} (x : A × B) (f : A → B → R) : R := f x.1 x.2
def un8 {A1 A2 A3 A4 A5 A6 A7 A8 B R : Type} (x : A1 × A2 × A3 × A4 × A5 × A6 × A7 × A8 × B) (f : A1 → A2 → A3 → A4 → A5 → A6 → A7 → A8 → B → R) : R :=
  f x.1 x.2.1 x.2.2.1 x.2.2.2.1 x.2.2.2.2.1 x.2.2.2.2.2.1 x.2.2.2.2.2.2.1 x.2.2.2.2.2.2.2.1 x.2.2.2.2.2.2.2.2

structure Cf where
  T : List TV
  H : Hp
  W : List Nat        -- blocks that were written

/-- A list laid out, to what follows (so that the kernel keeps no updates in updates). -/
noncomputable def forceL {α R : Type} (l : List α) (k : List α → R) : R := List.rec (motive := fun _ => (List α → R) → R) (fun k => k []) (fun x _ ih k => ih (fun r => k (x :: r))) l k
theorem forceL_eq {α R : Type} : ∀ (l : List α) (k : List α → R), forceL l k = k l
  | [], _ => rfl
  | x :: l, k => by
    show forceL l (fun r => k (x :: r)) = _
    rw [forceL_eq l]
noncomputable def forceCf {R : Type} (c : Cf) (k : Cf → R) : R := forceL c.T fun T => forceL c.H fun H => forceL c.W fun W => k ⟨T, H, W⟩
theorem forceCf_eq {R : Type} (c : Cf) (k : Cf → R) : forceCf c k = k c := by unfold forceCf; rw [forceL_eq, forceL_eq, forceL_eq]

def constA : Value → TV
  | .bool b => one (.bool b)
  | .int k n => one (.int k n)
  | .string s => one (.str s.data.toList)
  | .pointer none => one .nilp
  | .slice none 0 0 => one .nils
  | .nilFunc => one .nilfn
  | .nilIface => one .nili
  | _ => unkT

def evalA (T : List TV) : Operand → TV
  | .tmp t => T.getD t unkT
  | .const v => constA v
  | .func f => one (.fn f [])
  | .global _ => unkT

/-! Names of blocks changed -/

noncomputable def look (P : List (Nat × Nat)) (a : Nat) : Option Nat :=
  List.rec (motive := fun _ => Option Nat) none (fun x _ ih => cond (Nat.beq x.1 a) (some x.2) ih) P

theorem look_nil (a : Nat) : look [] a = none := rfl
theorem look_cons (x y : Nat) (r : List (Nat × Nat)) (a : Nat) : look ((x, y) :: r) a = if x = a then some y else look r a := by
  show cond (Nat.beq x a) (some y) (look r a) = _
  by_cases h : x = a
  · subst h
    rw [if_pos rfl, Nat.beq_refl x]
    rfl
  · rw [if_neg h]
    cases e : Nat.beq x a with
    | true => exact absurd (Nat.eq_of_beq_eq_true e) h
    | false => rfl

noncomputable def memN (a : Nat) (l : List Nat) : Bool := List.rec (motive := fun _ => Bool) false (fun x _ ih => cond (Nat.beq x a) true ih) l
theorem memN_eq (a : Nat) : ∀ l : List Nat, memN a l = l.contains a
  | [] => rfl
  | x :: l => by
    show cond (Nat.beq x a) true (memN a l) = _
    rw [memN_eq a l]
    cases e : Nat.beq x a with
    | true =>
      have := Nat.eq_of_beq_eq_true e
      subst this
      simp
    | false =>
      have h : ¬ a = x := fun h => by subst h; rw [Nat.beq_refl a] at e; cases e
      simp [h]

/-- Which number stands for which: the first n keep theirs, but for 'mov'; others by a list. -/
structure Acc where
  n : Nat
  mov : List Nat
  l : List (Nat × Nat)
def Acc.look (A : Acc) (j : Nat) : Option Nat := cond (Nat.blt j A.n) (cond (memN j A.mov) (Rf.look A.l j) (some j)) (Rf.look A.l j)

/-- A pair put to others, unless its number is known. -/
def addP (acc : Acc) (x : Nat × Nat) : Acc := match acc.look x.1 with
  | some _ => acc
  | none => ⟨acc.n, acc.mov, x :: acc.l⟩
def addPs (acc : Acc) : List (Nat × Nat) → Acc
  | [] => acc
  | x :: r => addPs (addP acc x) r

theorem addP_look {acc : Acc} {x : Nat × Nat} {a b : Nat} (h : acc.look a = some b) : (addP acc x).look a = some b := by
  unfold addP
  split
  · exact h
  · rename_i hn
    have key : look acc.l a = some b → look (x :: acc.l) a = some b := fun h1 => by
      rw [show x :: acc.l = (x.1, x.2) :: acc.l from rfl, look_cons]
      by_cases e : x.1 = a
      · rw [e] at hn; rw [hn] at h; cases h
      · rw [if_neg e]; exact h1
    unfold Acc.look at h ⊢
    simp only
    cases h1 : Nat.blt a acc.n with
    | true =>
      rw [h1] at h
      simp only [cond_true] at h ⊢
      cases h2 : memN a acc.mov with
      | true => rw [h2] at h; exact key h
      | false => rw [h2] at h; exact h
    | false => rw [h1] at h; exact key h
theorem addPs_look : ∀ {l : List (Nat × Nat)} {acc : Acc} {a b : Nat}, acc.look a = some b → (addPs acc l).look a = some b
  | [], _, _, _, h => h
  | _ :: l, _, _, _, h => addPs_look (l := l) (addP_look h)

def renPs (P : List (Nat × Nat)) : List Ptr → Option (List Ptr)
  | [] => some []
  | p :: r => match look P p.id, renPs P r with
    | some j, some l => some ({ p with id := j } :: l)
    | _, _ => none

def renC (P : List (Nat × Nat)) : AC → AC
  | .ptr p => match look P p.id with | some j => .ptr { p with id := j } | none => .unk
  | .slw id esz => match look P id with | some j => .slw j esz | none => .unk
  | .sl id esz off len cap => match look P id with | some j => .sl j esz off len cap | none => .unk
  | .fn f caps => match renPs P caps with | some l => .fn f l | none => .unk
  | .row id i => match look P id with | some j => .row j i | none => .unk
  | .prow id i t => match look P id with | some j => .prow j i t | none => .unk
  | c => c

def renSeg (P : List (Nat × Nat)) : Seg → Seg
  | .one c => .one (renC P c)
  | .arr k n l => .arr k n l
  | .acs l => .acs (l.map (renC P))
  | .deep k l => .deep k l

def renAV (P : List (Nat × Nat)) : AV → AV
  | .one c => .one (renC P c)
  | .agg l => .agg (l.map (renSeg P))

def renTV (P : List (Nat × Nat)) : TV → TV
  | .av v => .av (renAV P v)
  | .tup l => .tup (l.map (renAV P))

/-! Which block of a state stands where a shape names one -/

def pairPs : List Ptr → List Ptr → List (Nat × Nat)
  | p :: r, q :: s => (p.id, q.id) :: pairPs r s
  | _, _ => []

def pairSh : Sh → AC → List (Nat × Nat)
  | .const (.ptr p), .ptr q => [(p.id, q.id)]
  | .const (.slw a _), .slw b _ => [(a, b)]
  | .sl a _, .sl b _ _ _ _ => [(a, b)]
  | .pt a _ _, .ptr q => [(a, q.id)]
  | .const (.fn _ a), .fn _ b => pairPs a b
  | _, _ => []

def pairShs : List Sh → List AC → List (Nat × Nat)
  | s :: r, c :: cs => pairSh s c ++ pairShs r cs
  | _, _ => []

def pairSeg : SegSh → Seg → List (Nat × Nat)
  | .one s, .one c => pairSh s c
  | .acs l, .acs cs => pairShs l cs
  | _, _ => []

def pairSegs : List SegSh → List Seg → List (Nat × Nat)
  | s :: r, c :: cs => pairSeg s c ++ pairSegs r cs
  | _, _ => []

def pairAV : AVSh → AV → List (Nat × Nat)
  | .one s, .one c => pairSh s c
  | .agg l, .agg g => pairSegs l g
  | _, _ => []

def pairAVs : List AVSh → List AV → List (Nat × Nat)
  | s :: r, c :: cs => pairAV s c ++ pairAVs r cs
  | _, _ => []

def pairTV : TVSh → TV → List (Nat × Nat)
  | .av s, .av v => pairAV s v
  | .tup l, .tup g => pairAVs l g
  | _, _ => []

def pairTs (T : List TV) : List (Nat × TVSh) → List (Nat × Nat)
  | [] => []
  | (t, s) :: r => pairTV s (T.getD t unkT) ++ pairTs T r

/-- A block of a state's shape: as it was; gone; of a shape. -/
inductive BSh where
  | keep
  | dead
  | sh (s : SegSh)

/-- Block a; Hj: the blocks from j on. -/
def hgetN (H Hj : Hp) (j a : Nat) : Option Seg := cond (Nat.beq a j) (match Hj with | x :: _ => x.1 | [] => none) (hget H a)
def hlinkN (H Hj : Hp) (j a : Nat) : Bool := cond (Nat.beq a j) (match Hj with | x :: _ => x.2 | [] => false) (hlink H a)
theorem hgetN_eq {H Hj : Hp} {j : Nat} (h : Hj = H.drop j) (a : Nat) : hgetN H Hj j a = hget H a := by
  unfold hgetN
  cases e : Nat.beq a j with
  | false => rfl
  | true =>
    have e' := Nat.eq_of_beq_eq_true e
    subst e'
    rw [cond_true, h, hget_def]
    cases hd : H.drop a with
    | nil => rw [List.getElem?_eq_none (List.drop_eq_nil_iff.1 hd)]
    | cons x r =>
      have : H[a]? = some x := by rw [← List.head?_drop, hd]; rfl
      rw [this]
theorem hlinkN_eq {H Hj : Hp} {j : Nat} (h : Hj = H.drop j) (a : Nat) : hlinkN H Hj j a = hlink H a := by
  unfold hlinkN
  cases e : Nat.beq a j with
  | false => rfl
  | true =>
    have e' := Nat.eq_of_beq_eq_true e
    subst e'
    rw [cond_true, h, hlink_def]
    cases hd : H.drop a with
    | nil => rw [List.getElem?_eq_none (List.drop_eq_nil_iff.1 hd)]
    | cons x r =>
      have : H[a]? = some x := by rw [← List.head?_drop, hd]; rfl
      rw [this]

/-- The blocks' numbers (shape's number, state's number), block by block. -/
def pairBs (H : Hp) : Hp → Nat → List (BSh × Bool) → Acc → Acc
  | _, _, [], acc => acc
  | Hj, j, (b, lb) :: r, acc => match b with
    | .sh s => match acc.look j with
      | some a => match hgetN H Hj j a with
        | some g => pairBs H Hj.tail (j + 1) r (addPs (addPs acc (pairSeg s g)) (cond lb [(j + 1, a + 1)] []))
        | none => pairBs H Hj.tail (j + 1) r acc
      | none => pairBs H Hj.tail (j + 1) r acc
    | _ => pairBs H Hj.tail (j + 1) r acc

structure Shp where
  ts : List (Nat × TVSh)
  bs : List (BSh × Bool)

/-- (state's number, shape's number) of all blocks from j on whose number is known. -/
def flipM (acc : Acc) : Nat → List (BSh × Bool) → List (Nat × Nat)
  | _, [] => []
  | j, _ :: r => match acc.look j with
    | some a => (a, j) :: flipM acc (j + 1) r
    | none => flipM acc (j + 1) r

def nodup1 : List Nat → Bool
  | [] => true
  | a :: r => !(memN a r) && nodup1 r

/-- Does no block stand for two? (those that keep their numbers apart) -/
def parted (acc : Acc) (P : List (Nat × Nat)) : Bool :=
  (P.filter fun x => !(Nat.blt x.2 acc.n && !memN x.2 acc.mov)).all (fun x => Nat.ble acc.n x.1 || memN x.1 acc.mov) && nodup1 ((P.filter fun x => !(Nat.blt x.2 acc.n && !memN x.2 acc.mov)).map (·.1))

def isSomeN (x : Option Nat) (n : Nat) : Bool := match x with
  | some m => Nat.beq m n
  | none => false
theorem isSomeN_eq {x : Option Nat} {n : Nat} (h : isSomeN x n = true) : x = some n := by
  cases x with
  | none => cases h
  | some m => rw [Nat.eq_of_beq_eq_true h]

/-- The blocks of the shape, out of a state, renamed. -/
def selBs (H : Hp) (acc : Acc) (P : List (Nat × Nat)) : Hp → Nat → List (BSh × Bool) → Option Hp
  | _, _, [] => some []
  | Hj, j, (b, lb) :: r => match b with
    | .sh _ => match acc.look j with
      | some a => match hgetN H Hj j a with
        | some g => if !lb || (hlinkN H Hj j a && (isSomeN (acc.look (j + 1)) (a + 1) && !r.isEmpty)) then (match selBs H acc P Hj.tail (j + 1) r with
          | some l => some ((some (renSeg P g), lb) :: l)
          | none => none) else none
        | none => none
      | none => none
    | _ => match selBs H acc P Hj.tail (j + 1) r with
      | some l => some ((none, lb) :: l)
      | none => none

/-! A nil slice where a shape has a block of one's own: an empty block -/

def nilC (hg : Nat → Option Seg) (bs : List (BSh × Bool)) (nid : Nat) : Sh → AC → AC × List Seg
  | .const (.slw j esz), .nils => match bs[j]? with
    | some (.sh (.arr k none), _) => if esz = k.size then (.slw nid esz, [.arr k none []]) else (.nils, [])
    | some (.sh (.deep k), _) => if esz = 1 then (.slw nid esz, [.deep k []]) else (.nils, [])
    | _ => (.nils, [])
  | .sl j esz, .nils => match bs[j]? with
    | some (.sh (.arr k none), _) => if esz = k.size then (.sl nid esz 0 0 none, [.arr k none []]) else (.nils, [])
    | _ => (.nils, [])
  | .sl _ _, .slw id esz => match hg id with
    | some (.arr _ none l) => (.sl id esz 0 l.length none, [])
    | _ => (.slw id esz, [])
  | _, c => (c, [])

def nilG (hg : Nat → Option Seg) (bs : List (BSh × Bool)) (nid : Nat) : SegSh → Seg → Seg × List Seg
  | .one s, .one c => (.one (nilC hg bs nid s c).1, (nilC hg bs nid s c).2)
  | _, g => (g, [])

def nilGs (hg : Nat → Option Seg) (bs : List (BSh × Bool)) : Nat → List SegSh → List Seg → List Seg × List Seg
  | nid, s :: ss, g :: gs => ((nilG hg bs nid s g).1 :: (nilGs hg bs (nid + (nilG hg bs nid s g).2.length) ss gs).1, (nilG hg bs nid s g).2 ++ (nilGs hg bs (nid + (nilG hg bs nid s g).2.length) ss gs).2)
  | _, _, gs => (gs, [])

def nilA (hg : Nat → Option Seg) (bs : List (BSh × Bool)) (nid : Nat) : AVSh → AV → AV × List Seg
  | .one s, .one c => (.one (nilC hg bs nid s c).1, (nilC hg bs nid s c).2)
  | .agg l, .agg g => (.agg (nilGs hg bs nid l g).1, (nilGs hg bs nid l g).2)
  | _, v => (v, [])

def nilAs (hg : Nat → Option Seg) (bs : List (BSh × Bool)) : Nat → List AVSh → List AV → List AV × List Seg
  | nid, s :: ss, g :: gs => ((nilA hg bs nid s g).1 :: (nilAs hg bs (nid + (nilA hg bs nid s g).2.length) ss gs).1, (nilA hg bs nid s g).2 ++ (nilAs hg bs (nid + (nilA hg bs nid s g).2.length) ss gs).2)
  | _, _, gs => (gs, [])

def nilT (hg : Nat → Option Seg) (bs : List (BSh × Bool)) (nid : Nat) : TVSh → TV → TV × List Seg
  | .av s, .av v => (.av (nilA hg bs nid s v).1, (nilA hg bs nid s v).2)
  | .tup l, .tup g => (.tup (nilAs hg bs nid l g).1, (nilAs hg bs nid l g).2)
  | _, v => (v, [])

def nilTs (hg : Nat → Option Seg) (bs : List (BSh × Bool)) : Nat → List (Nat × TVSh) → List TV → List TV × List Seg
  | _, [], T => (T, [])
  | nid, (t, s) :: r, T => ((nilTs hg bs (nid + (nilT hg bs nid s (T.getD t unkT)).2.length) r (T.set t (nilT hg bs nid s (T.getD t unkT)).1)).1,
      (nilT hg bs nid s (T.getD t unkT)).2 ++ (nilTs hg bs (nid + (nilT hg bs nid s (T.getD t unkT)).2.length) r (T.set t (nilT hg bs nid s (T.getD t unkT)).1)).2)

def nilH (hg : Nat → Option Seg) (bs : List (BSh × Bool)) : Nat → List (BSh × Bool) → Hp → Hp × List Seg
  | nid, (.sh s, _) :: r, (some g, l) :: H => ((some (nilG hg bs nid s g).1, l) :: (nilH hg bs (nid + (nilG hg bs nid s g).2.length) r H).1, (nilG hg bs nid s g).2 ++ (nilH hg bs (nid + (nilG hg bs nid s g).2.length) r H).2)
  | nid, _ :: r, h :: H => (h :: (nilH hg bs nid r H).1, (nilH hg bs nid r H).2)
  | _, _, H => (H, [])

def shIds : Nat → List (BSh × Bool) → List Nat
  | _, [] => []
  | j, (.sh _, _) :: r => j :: shIds (j + 1) r
  | j, _ :: r => shIds (j + 1) r

/-- A state made ready for a shape. -/
def nilCf (s : Shp) (c : Cf) : Cf :=
  ⟨(nilTs (hget c.H) s.bs c.H.length s.ts c.T).1,
   (nilH (hget c.H) s.bs (c.H.length + (nilTs (hget c.H) s.bs c.H.length s.ts c.T).2.length) s.bs c.H).1 ++
     ((nilTs (hget c.H) s.bs c.H.length s.ts c.T).2 ++ (nilH (hget c.H) s.bs (c.H.length + (nilTs (hget c.H) s.bs c.H.length s.ts c.T).2.length) s.bs c.H).2).map (fun g => (some g, false)),
   shIds 0 s.bs ++ c.W⟩

def ssOf (s : Shp) : SS := ⟨s.ts, s.bs.map fun (b, l) => (match b with | .sh s => some s | _ => none, l)⟩

/-- What a state is by a shape; 'fixd': the first so many blocks keep their numbers, but for 'mov'. -/
def projShp (s : Shp) (fixd : Nat) (mov : List Nat) (T : List TV) (H : Hp) : Option (List Leaf) :=
  let acc := pairBs H H 0 s.bs ⟨fixd, mov, pairTs T s.ts⟩
  let P := flipM acc 0 s.bs
  if parted acc P then
    match selBs H acc P H 0 s.bs with
    | some H' => projSt (ssOf s) ⟨T.map (renTV P), H'⟩
    | none => none
  else none

/-! Calls -/

inductive AM where
  | keep
  | lend (k : EK)
  | lendp (k : EK)
  | agg (l : List (Option EK))

/-- A function as its callers know it. -/
structure GS where
  ins : SS
  lend : List AM
  outs : List SS
  its : List LK
  ots : List (List LK)
  F : PT its → Option (SumT ots)

/-- The state behind a function, by the way that it went. -/
def GS.out (g : GS) (y : SumT g.ots) : Option St := sumV g.ots 0 y fun i lv => match g.outs[i]? with
  | some s => embSt 1 s lv
  | none => none

def lendC (hg : Nat → Option Seg) (k : EK) (c : AC) : Option (AC × Bool × List Nat) :=
  match c with
  | .str _ => none
  | c => match content hg k c with
    | some (l, chk, ids) => some (.rsl k l, chk, ids)
    | none => match contentD hg k c with
      | some (l, chk, ids) => some (.rsl k l, chk, ids)
      | none => none

/-! Put away: a slice of one's own, read only from now on -/

def fzK (hg : Nat → Option Seg) : AC → Option EK
  | .slw id _ => match hg id with
    | some (.arr k _ _) => some k
    | some (.deep k _) => some (.sl (.int k))
    | _ => none
  | .sl id _ _ _ _ => match hg id with
    | some (.arr k _ _) => some k
    | _ => none
  | _ => none

def fzC (hg : Nat → Option Seg) (c : AC) : Option (AC × Bool × List Nat) :=
  match fzK hg c with
  | some k => lendC hg k c
  | none => none

def fzV (hg : Nat → Option Seg) : TV → Option (TV × Bool × List Nat)
  | .av (.one c) => match fzC hg c with
    | some (c', chk, ids) => some (one c', chk, ids)
    | none => none
  | _ => none

/-- Put away where it is a slice of one's own. -/
def fzW (hg : Nat → Option Seg) (v : TV) : TV × Bool × List Nat :=
  match fzV hg v with
  | some r => r
  | none => (v, true, [])

def fzPs (hg : Nat → Option Seg) : List (Nat × TV) → List (Nat × TV) × Bool × List Nat
  | [] => ([], true, [])
  | (i, v) :: r => ((i, (fzW hg v).1) :: (fzPs hg r).1, (fzW hg v).2.1 && (fzPs hg r).2.1, (fzW hg v).2.2 ++ (fzPs hg r).2.2)

/-- Arguments: those that 'm' names, bit by bit. -/
def fzAs (hg : Nat → Option Seg) : Nat → List TV → List TV × Bool × List Nat
  | _, [] => ([], true, [])
  | m, v :: r => if m % 2 = 1 then ((fzW hg v).1 :: (fzAs hg (m / 2) r).1, (fzW hg v).2.1 && (fzAs hg (m / 2) r).2.1, (fzW hg v).2.2 ++ (fzAs hg (m / 2) r).2.2)
    else (v :: (fzAs hg (m / 2) r).1, (fzAs hg (m / 2) r).2.1, (fzAs hg (m / 2) r).2.2)

/-- As 'r', behind blocks that are put away. -/
def OR.fz (ids : List Nat) (c : Bool) (r : OR) : OR :=
  ⟨r.R, r.run, fun x => ⟨(r.k x).v, ids.map (fun i => (i, none)) ++ (r.k x).upd, (r.k x).new⟩, c && r.chk, ids ++ r.rd, ids ++ r.wr,
    fun β x f => r.el β x fun e => f ⟨e.v, ids.map (fun i => (i, none)) ++ e.upd, e.new⟩, fun β x f => r.elk β x fun e => f ⟨e.v, ids.map (fun i => (i, none)) ++ e.upd, e.new⟩⟩

/-- What is seen without them. -/
def hgNot (hg : Nat → Option Seg) : List Nat → Nat → Option Seg
  | [] => hg
  | i :: r => hgNot (fun j => if j = i then none else hg j) r

def lendSegs (hg : Nat → Option Seg) : List (Option EK) → List Seg → Option (List Seg × Bool × List Nat)
  | [], [] => some ([], true, [])
  | none :: r, g :: s => match lendSegs hg r s with
    | some (l, c, ids) => some (g :: l, c, ids)
    | none => none
  | some k :: r, .one a :: s => match lendC hg k a, lendSegs hg r s with
    | some (a', c1, i1), some (l, c2, i2) => some (.one a' :: l, c1 && c2, i1 ++ i2)
    | _, _ => none
  | _, _ => none

def lendTV (hg : Nat → Option Seg) : AM → TV → Option (TV × Bool × List Nat)
  | .keep, v => some (v, true, [])
  | .lend k, .av (.one c) => match lendC hg k c with
    | some (a, c, i) => some (one a, c, i)
    | none => none
  | .lendp k, .av (.one (.ptr ⟨id, 0, 0, 0⟩)) => match hg id with
    | some (.one c) => match lendC hg k c with
      | some (.rsl k' l, chk, i) => some (one (.rptr (.sl k') l 0), chk, id :: i)
      | _ => none
    | _ => none
  | .agg l, .av (.agg s) => match lendSegs hg l s with
    | some (g, c, i) => some (.av (.agg g), c, i)
    | none => none
  | _, _ => none

def lendAll (hg : Nat → Option Seg) : List AM → List TV → Option (List TV × Bool × List Nat)
  | [], [] => some ([], true, [])
  | m :: r, v :: s => match lendTV hg m v, lendAll hg r s with
    | some (v', c1, i1), some (l, c2, i2) => some (v' :: l, (match c1 with | true => c2 | false => false), i1 ++ i2)
    | _, _ => none
  | _, _ => none

/-- A callee's number of a block, as the caller has it. -/
def backId (m : List Nat) (nid j : Nat) : Nat := if j < m.length then m.getD j 0 else nid + (j - m.length)

def backC (m : List Nat) (nid : Nat) : AC → AC
  | .ptr p => .ptr { p with id := backId m nid p.id }
  | .slw id esz => .slw (backId m nid id) esz
  | .sl id esz off len cap => .sl (backId m nid id) esz off len cap
  | .fn f caps => .fn f (caps.map fun p => { p with id := backId m nid p.id })
  | .row id i => .row (backId m nid id) i
  | .prow id i t => .prow (backId m nid id) i t
  | c => c

def backSeg (m : List Nat) (nid : Nat) : Seg → Seg
  | .one c => .one (backC m nid c)
  | .arr k n l => .arr k n l
  | .acs l => .acs (l.map (backC m nid))
  | .deep k l => .deep k l

def backAV (m : List Nat) (nid : Nat) : AV → AV
  | .one c => .one (backC m nid c)
  | .agg l => .agg (l.map (backSeg m nid))

def backTV (m : List Nat) (nid : Nat) : TV → TV
  | .av v => .av (backAV m nid v)
  | .tup l => .tup (l.map (backAV m nid))

def backB (m : List Nat) (nid : Nat) : Option Seg → Option Seg
  | some g => some (backSeg m nid g)
  | none => none

def backNew (m : List Nat) (nid : Nat) : Hp → List (Seg × Bool)
  | [] => []
  | (some g, l) :: r => (backSeg m nid g, l) :: backNew m nid r
  | (none, l) :: r => (.acs [], l) :: backNew m nid r

def zipU (m : List Nat) (nid : Nat) : List Nat → Hp → List (Nat × Option Seg)
  | a :: r, (g, _) :: H => (a, backB m nid g) :: zipU m nid r H
  | _, _ => []

def roFreeSh : Sh → Bool
  | .rsl _ => false
  | .rps _ => false
  | .ierr _ => false
  | .const (.ierr _ _ _) => false
  | .const (.rsl _ _) => false
  | .const (.rptr _ _ _) => false
  | _ => true

/-- No slices inside. -/
def EK.plain : EK → Bool
  | .sl _ => false
  | .arr _ k => k.plain
  | .pair a b => a.plain && b.plain
  | _ => true

def roFree : SegSh → Bool
  | .one s => roFreeSh s
  | .arr k _ => k.plain
  | .acs l => l.all roFreeSh
  | .deep _ => true

def roFreeA : AVSh → Bool
  | .one s => roFreeSh s
  | .agg l => l.all roFree

def roFreeT : TVSh → Bool
  | .av s => roFreeA s
  | .tup l => l.all roFreeA

def roFreeSS (s : SS) : Bool := s.ts.all (fun x => roFreeT x.2) && s.bs.all (fun x => match x.1 with | some g => roFree g | none => true)

def SegSh.width : SegSh → Option Nat
  | .one _ => some 1
  | .arr k (some n) => some (n * k.size)
  | .arr _ none => none
  | .acs _ => none
  | .deep _ => none

/-- What goes in comes out as wide as it was; what is new is there. -/
def shapesOk : List (Option SegSh × Bool) → List (Option SegSh × Bool) → Bool
  | [], r => r.all fun x => x.1.isSome
  | _ :: _, [] => false
  | (a, _) :: r, (b, _) :: s => (match a, b with
    | _, none => true
    | some x, some y => decide (x.width = y.width)
    | none, some _ => false) && shapesOk r s

def selM (H : Nat → Option Seg) (lk : Nat → Bool) (P : List (Nat × Nat)) : List Nat → Hp
  | [] => []
  | a :: r => (match H a with | some g => some (renSeg P g) | none => none, match r with | b :: _ => decide (b = a + 1) && lk a | [] => false) :: selM H lk P r

def numM (acc : Acc) : Nat → Nat → Option (List Nat)
  | _, 0 => some []
  | j, n + 1 => match acc.look j, numM acc (j + 1) n with
    | some a, some l => some (a :: l)
    | _, _ => none

def flipN : Nat → List Nat → List (Nat × Nat)
  | _, [] => []
  | j, a :: r => (a, j) :: flipN (j + 1) r

def pairHs (hg : Nat → Option Seg) : Nat → List (Option SegSh × Bool) → Acc → Acc
  | _, [], acc => acc
  | j, (b, lb) :: r, acc => match b, acc.look j with
    | some s, some a => match hg a with
      | some g => pairHs hg (j + 1) r (addPs (addPs acc (pairSeg s g)) (cond lb [(j + 1, a + 1)] []))
      | none => pairHs hg (j + 1) r acc
    | _, _ => pairHs hg (j + 1) r acc

/-- What a call leaves behind, by the way that it went. -/
def outE (g : GS) (m : List Nat) (nid : Nat) (i : Nat) (lv : List Leaf) : Eff :=
  match g.outs[i]? with
  | some s => match embSt 1 s lv with
    | some st => ⟨backTV m nid (st.T.getD 0 unkT), zipU m nid m st.H, backNew m nid (st.H.drop m.length)⟩
    | none => ⟨unkT, [], []⟩
  | none => ⟨unkT, [], []⟩

def callG (g : GS) (hg : Nat → Option Seg) (lk : Nat → Bool) (nid : Nat) (args : List TV) : Option OR :=
    match lendAll hg g.lend args with
    | none => none
    | some (as, chk, ids) =>
      match numM (pairHs hg 0 g.ins.bs ⟨0, [], pairTs as g.ins.ts⟩) 0 g.ins.bs.length with
      | none => none
      | some m =>
        if nodup1 m && ids.all (fun i => !memN i m) && (ids.isEmpty || g.outs.all roFreeSS) && g.outs.all (fun s => shapesOk g.ins.bs s.bs) && m.all (fun i => (hg i).isSome) then
          match projSt g.ins ⟨as.map (renTV (flipN 0 m)), selM hg lk (flipN 0 m) m⟩ with
          | none => none
          | some lv => match decP g.its lv with
            | none => none
            | some x => some ⟨SumT g.ots, g.F x, fun r => sumV g.ots 0 r (outE g m nid), chk, ids ++ m, m,
              fun _ r f => sumK g.ots 0 r fun i lv => f (outE g m nid i lv), fun _ r f => sumK_sumV (outE g m nid) f g.ots 0 r⟩
        else none

/-- The first form of the function that takes the arguments. -/
def callL (hg : Nat → Option Seg) (lk : Nat → Bool) (nid : Nat) (args : List TV) : List GS → Option OR
  | [] => none
  | g :: r => match callG g hg lk nid args with
    | some o => some o
    | none => callL hg lk nid args r

def callA (C : Nat → List GS) (hg : Nat → Option Seg) (lk : Nat → Bool) (nid : Nat) (f : Nat) (args : List TV) : Option OR := callL hg lk nid args (C f)

/-! One operation -/

def tvAC : TV → Option AC
  | .av (.one c) => some c
  | _ => none

def evalParts (T : List TV) (ps : List (Nat × Operand)) : List (Nat × TV) := ps.map fun (i, x) => (i, evalA T x)

def capPtrs : List TV → Option (List Ptr)
  | [] => some []
  | .av (.one (.ptr p)) :: r => match capPtrs r with
    | some l => some (p :: l)
    | none => none
  | _ => none

def opSame : Operand → Operand → Bool
  | .tmp a, .tmp b => a == b
  | .const (.int _ a), .const (.int _ b) => a == b
  | _, _ => false

section
variable (Γ : Tab) (C : Nat → List GS) (T : List TV) (hg : Nat → Option Seg) (lk : Nat → Bool) (nid : Nat)

def lenS (c : AC) : Option (Nat × List Nat) :=
  match c with
  | .str _ => none
  | c => lenA hg c

def builtinA (b : Builtin) (ats : List Nat) (args : List TV) : Option OR :=
  match b, ats, args with
  | .len, t :: _, v :: _ => match tdesc Γ t, v with
    | some (.array n _), _ => some (.val (one (.int .i64 (n : Int))))
    | some (.ptr e), _ => match tdesc Γ e with
      | some (.array n _) => some (.val (one (.int .i64 (n : Int))))
      | _ => none
    | some .str, .av (.one (.str s)) => some (.val (one (.int .i64 (s.length : Int))))
    | some (.slice _), .av (.one c) => match lenS hg c with
      | some (n, ids) => some ⟨Unit, some (), fun _ => ⟨one (.int .i64 (n : Int)), [], []⟩, true, ids, [], fun _ _ f => f ⟨one (.int .i64 (n : Int)), [], []⟩, fun _ _ _ => rfl⟩
      | none => none
    | _, _ => none
  | .append, [st, xt], [.av (.one x), .av (.one y)] => match tdesc Γ xt with
    | some (.slice _) => match appendD hg nid Γ st x y with
      | some r => some r
      | none => appendA hg nid Γ st x y
    | some .str => appendA hg nid Γ st x y
    | some (.int _) => match y with
      | .int _ n => appendZ hg nid Γ st x n
      | _ => none
    | _ => none
  | .copy, [dt, _], [.av (.one x), .av (.one y)] => copyA hg Γ dt x y
  | .min, _, [.av (.one (.int k x)), .av (.one (.int k' y))] => if k = k' then some (.val (one (.int k (if y < x then y else x)))) else none
  | .max, _, [.av (.one (.int k x)), .av (.one (.int k' y))] => if k = k' then some (.val (one (.int k (if x < y then y else x)))) else none
  | _, _, _ => none

def opA (o : Oper) : Option OR :=
  match o.op with
  | .move x => some (.val (evalA T x))
  | .assign x => some (.val (evalA T x))
  | .pick c a b => match evalA T c, evalA T a, evalA T b with
    | .av (.one (.bool v)), .av (.one x), .av (.one y) => match pickA v x y with
      | some r => some (.val (one r))
      | none => match v with
        | true => some (.val (one x))
        | false => some (.val (one y))
    | .av (.one (.bool true)), x, _ => some (.val x)
    | .av (.one (.bool false)), _, y => some (.val y)
    | _, _, _ => none
  | .alloc t => match tget Γ t with
    | some ti => match ti.zero with
      | [] => none
      | z => if (widths z).isSome && solid z then some (boxA nid z) else none
    | none => none
  | .box _ x => match evalA T x with
    | .av v => match v.segs with
      | [] => none
      | s => if (widths s).isSome && solid s then some (boxA nid s) else none
    | _ => none
  | .build t ps => buildA Γ t (evalParts T ps.toList)
  | .buildSlice t n ps => buildSliceA nid Γ false t n (evalParts T ps.toList)
  | .load t x => match tvAC (evalA T x) with
    | some c => loadA hg lk Γ t c
    | none => none
  | .store t x v => match tvAC (evalA T x), (evalA T v).segs? with
    | some c, some s => storeA hg lk Γ t c s
    | _, _ => none
  | .nilCheck x => match evalA T x with
    | .av (.one (.ptr p)) => some (.val (one (.ptr p)))
    | .av (.one (.rptr k y j)) => some (.val (one (.rptr k y j)))
    | _ => none
  | .binOp op t x y _ => binA Γ op t (evalA T x) (evalA T y)
  | .unOp op _ x => match tvAC (evalA T x) with
    | some c => match unA op c with
      | some r => some (.val (one r))
      | none => none
    | none => none
  | .convert s d x => match tvAC (evalA T x) with
    | some c => convA hg nid Γ s d c
    | none => none
  | .makeFunc (.func f) first caps => match first.toList, capPtrs (caps.toList.map (evalA T)) with
    | [], some ps => some (.val (one (.fn f ps)))
    | _, _ => none
  | .makeSlice t l c => match intA (evalA T l), intA (evalA T c) with
    | some (_, a), some (_, b) => makeSliceA nid Γ t (opSame l c) a b
    | _, _ => none
  | .slice t x lo hi mx => match tvAC (evalA T x) with
    | some c => sliceA hg Γ t c (lo.map (evalA T)) (hi.map (evalA T)) (mx.map (evalA T))
    | none => none
  | .fieldAddr t x f => match tvAC (evalA T x) with
    | some c => fieldAddrA hg lk Γ t c f
    | none => none
  | .field t x f => match fieldA Γ t (evalA T x) f with
    | some v => some (.val v)
    | none => none
  | .indexAddr t x i => match tvAC (evalA T x), intA (evalA T i) with
    | some c, some (_, n) => indexAddrA hg Γ t c n
    | _, _ => none
  | .index t x i => match intA (evalA T i) with
    | some (_, n) => indexA Γ t (evalA T x) n
    | none => none
  | .extract x i => match evalA T x with
    | .tup l => match l[i]? with
      | some v => some (.val (.av v))
      | none => none
    | _ => none
  | .call c => match c.callee with
    | .builtin b => builtinA Γ hg nid b c.argTypes.toList (c.args.toList.map (evalA T))
    | .value f => match evalA T f with
      | .av (.one (.fn f caps)) => callA C hg lk nid f (c.args.toList.map (evalA T) ++ caps.map fun p => one (.ptr p))
      | _ => none
    | .invoke _ _ => none
  | _ => none

end

/-! A region -/

def updH (H : Hp) (id : Nat) (s : Option Seg) : Hp :=
  match H[id]? with
  | some (_, b) => H.set id (s, b)
  | none => H

def updAll (H : Hp) : List (Nat × Option Seg) → Hp
  | [] => H
  | (id, s) :: r => updAll (updH H id s) r

def putT (T : List TV) (d : Option Nat) (v : TV) : List TV :=
  match d with
  | some d => T.set d v
  | none => T

/-- The blocks that an effect writes, put to others. -/
def addW : List (Nat × Option Seg) → List Nat → List Nat
  | [], W => W
  | x :: r, W => addW r (cond (memN x.1 W) W (x.1 :: W))
theorem mem_addW {j : Nat} : ∀ {l : List (Nat × Option Seg)} {W : List Nat}, j ∈ addW l W ↔ j ∈ l.map (·.1) ++ W
  | [], W => by simp [addW]
  | x :: l, W => by
    unfold addW
    rw [mem_addW (l := l)]
    cases h : memN x.1 W with
    | true =>
      have hm : x.1 ∈ W := by rw [memN_eq] at h; simpa using h
      simp only [cond_true, List.map_cons, List.cons_append, List.mem_append, List.mem_cons]
      constructor
      · rintro (h | h)
        · exact .inr (.inl h)
        · exact .inr (.inr h)
      · rintro (h | h | h)
        · exact .inr (h ▸ hm)
        · exact .inl h
        · exact .inr h
    | false =>
      simp only [cond_false, List.map_cons, List.cons_append, List.mem_append, List.mem_cons]
      constructor
      · rintro (h | h | h)
        · exact .inr (.inl h)
        · exact .inl h
        · exact .inr (.inr h)
      · rintro (h | h | h)
        · exact .inr (.inl h)
        · exact .inl h
        · exact .inr (.inr h)

def applyE (d : Option Nat) (e : Eff) (c : Cf) : Cf :=
  ⟨putT c.T d e.v, updAll c.H e.upd ++ e.new.map (fun (s, b) => (some s, b)), addW e.upd c.W⟩

def dstOf (all : List Oper) (j : Nat) : Option Nat :=
  match all[j]? with
  | some o => o.dst
  | none => none

/-- How many of the forms of a function are left out. -/
def dropN : EK → Nat
  | .arr n _ => n
  | _ => 0

/-- The cells of an own block that an error lies in: its blocks, what it holds. -/
def errA (hg : Nat → Option Seg) (lk : Nat → Bool) (id : Nat) : Option (Bool × Int × Nat) :=
  match hg id, hg (id + 1), hg (id + 2) with
  | some (.one (.str _)), some (.one (.str _)), some (.one (.ierr o e d)) => cond (lk id && lk (id + 1)) (some (o, e, d)) none
  | _, _, _ => none

/-- An error put into an interface. -/
def ifaceA (Γ : Tab) (hg : Nat → Option Seg) (lk : Nat → Bool) (t : Nat) (v : TV) : Option OR :=
  match tdesc Γ t, v with
  | some (.int _), .av (.one (.int .i64 n)) => if t = errT.1 then some (.val (one (.ierr false n 0))) else none
  | some (.struct _), .av (.agg []) => if t = errT.2.1 then some (.val (one (.ierr true 0 0))) else none
  | some (.ptr _), .av (.one (.ptr ⟨id, 0, 0, 0⟩)) => if t = errT.2.2 then (match errA hg lk id with
    | some (o, e, d) => some ((OR.val (one (.ierr o e (d + 1)))).fz [id, id + 1, id + 2] true)
    | none => none) else none
  | _, _ => none

/-- 'opA'; a nil slice that is put into a temporary of 'Z' is taken as an empty one of one's own. -/
def opZ (Γ : Tab) (C : Nat → List GS) (Z : Nat → Option EK) (T : List TV) (hg : Nat → Option Seg) (lk : Nat → Bool) (nid : Nat) (o : Oper) : Option OR :=
  match o.op, o.dst with
  | .assign (.const (.slice none 0 0)), some t => match Z t with
    | some (.pair (.sl (.int k)) .unit) => some (.eff ⟨one (.slw nid 1), [], [(.deep k [], false)]⟩ true [] [])
    | some k => some (.eff ⟨one (.slw nid k.size), [], [(.arr k none [], false)]⟩ true [] [])
    | none => opA Γ C T hg lk nid o
  | .buildSlice ty n ps, some t => match Z t with
    | some (.pair (.sl (.int _)) .unit) => buildSliceD hg nid Γ ty n (evalParts T ps.toList)
    | some (.sl _) => match buildSliceA nid Γ true ty n (fzPs hg (evalParts T ps.toList)).1 with
      | some r => some (r.fz (fzPs hg (evalParts T ps.toList)).2.2 (fzPs hg (evalParts T ps.toList)).2.1)
      | none => none
    | some _ => buildSliceA nid Γ true ty n (evalParts T ps.toList)
    | none => opA Γ C T hg lk nid o
  | .assign (.tmp s), some t => match Z t with
    | some (.sl _) => match fzV hg (T.getD s unkT) with
      | some q => some ((OR.val q.1).fz q.2.2 q.2.1)
      | none => opA Γ C T hg lk nid o
    | _ => opA Γ C T hg lk nid o
  | .call ⟨.value f, args, _⟩, some t => match Z t with
    | some (.arr m kd) => match evalA T f with
      | .av (.one (.fn f caps)) => match callL (hgNot hg (fzAs hg m (args.toList.map (evalA T))).2.2) lk nid ((fzAs hg m (args.toList.map (evalA T))).1 ++ caps.map fun p => one (.ptr p)) ((C f).drop (dropN kd)) with
        | some r => some (r.fz (fzAs hg m (args.toList.map (evalA T))).2.2 (fzAs hg m (args.toList.map (evalA T))).2.1)
        | none => none
      | _ => none
    | _ => opA Γ C T hg lk nid o
  | .makeInterface t x, _ => ifaceA Γ hg lk t (evalA T x)
  | .store t x v, _ => match opA Γ C T hg lk nid o with
    | some r => some r
    | none => match tvAC (evalA T x), fzV hg (evalA T v) with
      | some c, some q => match q.1.segs? with
        | some s => match storeA (hgNot hg q.2.2) lk Γ t c s with
          | some r => some (r.fz q.2.2 q.2.1)
          | none => none
        | none => none
      | _, _ => none
  | _, _ => opA Γ C T hg lk nid o

def hgOnly (L : List Nat) (hg : Nat → Option Seg) (id : Nat) : Option Seg := cond (memN id L) (hg id) none
def lkOnly (L : List Nat) (lk : Nat → Bool) (id : Nat) : Bool := cond (memN id L) (lk id) false

def updsOk (n : Nat) (wr : List Nat) : List (Nat × Option Seg) → Bool
  | [] => true
  | (i, _) :: r => Nat.blt i n && (memN i wr && updsOk n wr r)

def fromN (n : Nat) : List (Seg × Bool) → List Nat
  | [] => []
  | _ :: r => n :: fromN (n + 1) r

/-- Of an operation whose place in the order is not set: it is taken by what it reads and writes alone. -/
def lessR (Γ : Tab) (C : Nat → List GS) (Z : Nat → Option EK) (draw : Bool) (o : Oper) (c : Cf) (r : OR) : Option OR :=
  cond draw (opZ Γ C Z c.T (hgOnly (r.rd ++ r.wr) (hget c.H)) (lkOnly (r.rd ++ r.wr) (hlink c.H)) c.H.length o) (some r)

/-- One operation: what it read and wrote goes to 'K' with the state. -/
def stepA (Γ : Tab) (C : Nat → List GS) (Z : Nat → Option EK) (draw : Bool) {R : Type} (o : Oper) (c : Cf) (K : List Nat × List Nat → Cf → Option R) : Option R :=
  match opZ Γ C Z c.T (hget c.H) (hlink c.H) c.H.length o with
  | none => none
  | some r0 => match lessR Γ C Z draw o c r0 with
    | none => none
    | some r => cond r.chk (r.run.bind fun x => r.el R x fun e => cond (updsOk c.H.length r0.wr e.upd) (forceCf (applyE o.dst e c) (K (r0.rd, r0.wr ++ fromN c.H.length e.new))) none) none

def runOps (Γ : Tab) (C : Nat → List GS) (Z : Nat → Option EK) (draw : Bool) {R : Type} (all : List Oper) (K : List (Nat × List Nat × List Nat) → Cf → Option R) :
    Nat → List Oper → List (Nat × List Nat × List Nat) → Cf → Option R
  | _, [], fp, c => K fp c
  | i, o :: os, fp, c =>
    match o.guard with
    | none => stepA Γ C Z draw o c fun rw c' => runOps Γ C Z draw all K (i + 1) os ((i, rw) :: fp) c'
    | some (j, want) => match dstOf all j with
      | none => none
      | some d => match c.T.getD d unkT with
        | .av (.one (.bool b)) =>
          cond b
            (match want with
              | true => stepA Γ C Z draw o { c with T := c.T.set d (one (.bool true)) } fun rw c' => runOps Γ C Z draw all K (i + 1) os ((i, rw) :: fp) c'
              | false => forceCf { c with T := putT (c.T.set d (one (.bool true))) o.dst (.tup []) } fun c => runOps Γ C Z draw all K (i + 1) os fp c)
            (match want with
              | false => stepA Γ C Z draw o { c with T := c.T.set d (one (.bool false)) } fun rw c' => runOps Γ C Z draw all K (i + 1) os ((i, rw) :: fp) c'
              | true => forceCf { c with T := putT (c.T.set d (one (.bool false))) o.dst (.tup []) } fun c => runOps Γ C Z draw all K (i + 1) os fp c)
        | .tup [] => forceCf { c with T := putT c.T o.dst (.tup []) } fun c => runOps Γ C Z draw all K (i + 1) os fp c
        | _ => none

/-! May a region's operations be taken in the order of the text? -/

def edges (o : Oper) : List Nat := o.after.toList.filterMap fun e => match e.ground with | .textOnly _ => none | .gcOnly _ => none | _ => some e.on

def befores : List Oper → List Nat → List Nat
  | [], acc => acc
  | o :: os, acc => befores os (acc ++ [(edges o).foldl (fun m e => Nat.lor m (Nat.lor (Nat.shiftLeft 1 e) (acc.getD e 0))) 0])

def opTmps (o : Oper) (all : List Oper) : List Nat :=
  (o.op.operands.toList.filterMap fun | .tmp t => some t | _ => none) ++
  (match o.guard with
   | some (g, _) => (dstOf all g).toList
   | none => [])

def meets (a b : List Nat) : Bool := a.any fun i => memN i b

def tmpClash (all : List Oper) (x y : Oper) : Bool :=
  (match x.dst with
   | some d => (opTmps y all).contains d || (match y.dst with | some e => d == e | none => false)
   | none => false) ||
  (match y.dst with
   | some d => (opTmps x all).contains d
   | none => false)

def fpClash (x y : List Nat × List Nat) : Bool := meets x.2 y.1 || meets x.2 y.2 || meets x.1 y.2

def allBelow (p : Nat → Nat → Bool) : Nat → Bool
  | 0 => true
  | j + 1 => allBelow p j && (List.range j).all (fun i => p i j)

def edgesOk : Nat → List Oper → Bool
  | _, [] => true
  | i, o :: r => (edges o).all (fun e => decide (e < i)) && edgesOk (i + 1) r

def tmpsOk (all : List Oper) : Bool :=
  edgesOk 0 all &&
  allBelow (fun i j => match all[i]?, all[j]? with
    | some x, some y => !tmpClash all x y || Nat.testBit ((befores all []).getD j 0) i
    | _, _ => true) all.length

def fpOk (bs : List Nat) : List (Nat × List Nat × List Nat) → Bool
  | [] => true
  | (j, x) :: r => r.all (fun y => !fpClash x y.2 || Nat.testBit (bs.getD j 0) y.1) && fpOk bs r

/-! Code -/

inductive Ex where
  | normal
  | exit (id : Nat)
  | ret

/-- A loop as the code around it knows it: the state at its head, the blocks whose numbers change ('mov'), those that are written ('wr'), the ways out. -/
structure LD where
  ins : Shp
  mov : List Nat
  wr : List Nat
  outs : List (Ex × Shp)
  its : List LK
  ots : List (List LK)

structure LE extends LD where
  F : PT its → Option (SumT ots)

/-- A place where ways meet. -/
structure JH where
  shp : Shp
  mov : List Nat
  wr : List Nat
  ts : List LK

/-- A place where ways meet, of several kinds. -/
structure JX where
  mov : List Nat
  wr : List Nat
  outs : List (Ex × Shp)
  ots : List (List LK)

structure Hint where
  reg : Nat → Option JH
  cnd : Nat → Option JX
  loop : Nat → Option LE
  nil : Nat → Option EK
  unr : Nat → Nat
  blk : Nat → Option JX

def Hint.none : Hint := ⟨fun _ => .none, fun _ => .none, fun _ => .none, fun _ => .none, fun _ => 0, fun _ => .none⟩

/-- A loop round by round, so many rounds at most. -/
def unrollX {R : Type} (X : Nat → (Ex → Cf → Option R) → Cf → Option R) (K : Ex → Cf → Option R) : Nat → Nat → Cf → Option R
  | 0, _, _ => none
  | n + 1, i, c => X i (fun x c => match x with
    | .normal => unrollX X K n (i + 1) c
    | x => K x c) c

/-- What an exit is to the block around. -/
def blockK {R : Type} (id : Nat) (K : Ex → Cf → Option R) (x : Ex) (c : Cf) : Option R :=
  match x with
  | .exit e => if e = id then K .normal c else K (.exit e) c
  | x => K x c

/-- The temporaries that code may set. -/
def asg : Code → List Nat
  | .region _ ops _ => ops.toList.filterMap (·.dst)
  | .seq a b => asg a ++ asg b
  | .cond _ a b => asg a ++ asg b
  | .block _ b => asg b
  | .loop b => asg b
  | .scope b => asg b
  | _ => []

def forget (T : List TV) : List Nat → List TV
  | [] => T
  | t :: r => forget (T.set t unkT) r

def wOk (n : Nat) (W mov wr : List Nat) : Bool := W.all fun i => Nat.ble n i || memN i mov || memN i wr

/-- The blocks behind a loop or a meeting, out of those before it. -/
def embBsh (mov wr : List Nat) : Nat → List (BSh × Bool) → Hp → List Leaf → Option (Hp × List Leaf)
  | _, [], [], r => some ([], r)
  | j, (b, lb) :: ss, h :: H, r => match b with
    | .keep => if memN j mov || memN j wr then none else match embBsh mov wr (j + 1) ss H r with
      | some (l, r') => some (h :: l, r')
      | none => none
    | .dead => if memN j mov || memN j wr || h.1.isNone then (match embBsh mov wr (j + 1) ss H r with
      | some (l, r') => some ((none, h.2) :: l, r')
      | none => none) else none
    | .sh s => if !memN j mov && memN j wr && (lb || !h.2) then (match embSeg s r with
      | some (g, r') => match embBsh mov wr (j + 1) ss H r' with
        | some (l, r'') => some ((some g, h.2) :: l, r'')
        | none => none
      | none => none) else none
  | j, (b, lb) :: ss, [], r => match b with
    | .sh s => match embSeg s r with
      | some (g, r') => match embBsh mov wr (j + 1) ss [] r' with
        | some (l, r'') => some ((some g, lb) :: l, r'')
        | none => none
      | none => none
    | _ => none
  | _, [], _ :: _, _ => none

def embOut (s : Shp) (mov wr as : List Nat) (c : Cf) (lv : List Leaf) : Option Cf :=
  match embTs (forget c.T as) s.ts lv with
  | some (T, r) => match embBsh mov wr 0 s.bs c.H r with
    | some (H, []) => some ⟨T, H, mov ++ wr ++ c.W⟩
    | _ => none
  | none => none

def movFree (s : Shp) (n : Nat) (T : List TV) (H : Hp) : List Nat → Bool
  | [] => true
  | j :: mov => (j :: mov).all fun i => ((pairBs H H 0 s.bs ⟨n, j :: mov, pairTs T s.ts⟩).look i).isNone

def projOut (s : Shp) (n : Nat) (mov wr : List Nat) (c : Cf) : Option (List Leaf) :=
  if wOk n c.W mov wr && movFree s n (nilCf s c).T (nilCf s c).H mov then projShp s n mov (nilCf s c).T (nilCf s c).H else none

/-- What a loop's code does not know stays as it was: 'keep' only there. -/
def keepOk : List (BSh × Bool) → List (BSh × Bool) → Bool
  | [], r => r.all fun x => match x.1 with | .keep => false | _ => true
  | _, [] => true
  | (a, _) :: r, (b, _) :: s => (match a, b with | .sh _, .keep => false | _, _ => true) && keepOk r s

/-- The state at a loop's head. -/
def embHead (n : Nat) (s : Shp) (lv : List Leaf) : Option Cf :=
  match embSt n (ssOf s) lv with
  | some st => some ⟨st.T, st.H, []⟩
  | none => none

def join {R : Type} (j : Option JH) (as : List Nat) (c : Cf) (X : (R' : Type) → Cf → (Cf → Option R') → Option R') (K : Cf → Option R) : Option R :=
  match j with
  | .none => X R c K
  | some h => (X (PT h.ts) { c with W := [] } fun c' => (projOut h.shp c.H.length h.mov h.wr c').bind (decP h.ts)).bind fun a =>
      match embOut h.shp h.mov h.wr as c (encP h.ts a) with
      | some c' => K c'
      | .none => .none

/-- A way out, out of its leaves. -/
def injS : (ots : List (List LK)) → Nat → List Leaf → Option (SumT ots)
  | [], _, _ => none
  | [t], 0, lv => decP t lv
  | [_], _ + 1, _ => none
  | t :: u :: r, 0, lv => match decP t lv with
    | some x => some (.inl x : PT t ⊕ SumT (u :: r))
    | none => none
  | t :: u :: r, i + 1, lv => match injS (u :: r) i lv with
    | some x => some (.inr x : PT t ⊕ SumT (u :: r))
    | none => none

def exEq : Ex → Ex → Bool
  | .normal, .normal => true
  | .exit a, .exit b => Nat.beq a b
  | .ret, .ret => true
  | _, _ => false

/-- Which of the ways a way is. -/
def wayJ {R : Type} (n : Nat) (mov wr : List Nat) (out : Nat → List Leaf → Option R) (x : Ex) (c : Cf) : List (Ex × Shp) → Nat → Option R
  | [], _ => none
  | (y, s) :: r, i => match exEq x y with
    | true => (projOut s n mov wr c).bind (out i)
    | false => wayJ n mov wr out x c r (i + 1)

def joinX {R : Type} (j : Option JX) (as : List Nat) (c : Cf) (X : (R' : Type) → Cf → (Ex → Cf → Option R') → Option R') (K : Ex → Cf → Option R) : Option R :=
  match j with
  | .none => X R c K
  | some h => (X (SumT h.ots) { c with W := [] } fun x c' => wayJ c.H.length h.mov h.wr (injS h.ots) x c' h.outs 0).bind fun r => sumK h.ots 0 r fun i lv => match h.outs[i]? with
      | .none => .none
      | some (x, s) => match embOut s h.mov h.wr as c lv with
        | .none => .none
        | some c' => K x c'

/-- A loop, from outside. -/
def loopIn {R : Type} (as : List Nat) (l : LE) (c : Cf) (K : Ex → Cf → Option R) : Option R :=
  match projOut l.ins c.H.length [] [] { c with W := [] } with
  | none => none
  | some lv => match decP l.its lv with
    | none => none
    | some x => (l.F x).bind fun r => sumK l.ots 0 r fun i lv' => match l.outs[i]? with
      | none => none
      | some (x, s) => match (if keepOk l.ins.bs s.bs && Nat.beq l.ins.bs.length c.H.length then embOut s l.mov l.wr as c lv' else none) with
        | none => none
        | some c' => K x c'

noncomputable def exec (Γ : Tab) (C : Nat → List GS) (J : Nat → Hint) : Nat → Code → (R : Type) → Cf → (Ex → Cf → Option R) → Option R
  | cx, .skip, _, c, K => K .normal c
  | cx, .label _, _, c, K => K .normal c
  | cx, .region id ops draw, _, c, K =>
    let all := ops.toList
    if !draw || tmpsOk all then
      join ((J cx).reg id) (asg (.region id ops draw)) c
        (fun _ c K => runOps Γ C (J cx).nil draw all (fun fp c => if !draw || fpOk (befores all []) fp then K c else none) 0 all [] c)
        (fun c => K .normal c)
    else none
  | cx, .seq a b, R, c, K => exec Γ C J cx a R c fun x c => match x with
    | .normal => exec Γ C J cx b R c K
    | x => K x c
  | cx, .cond o a b, R, c, K => match evalA c.T o with
    | .av (.one (.bool v)) => match o with
      | .tmp t => joinX ((J cx).cnd t) (t :: (asg a ++ asg b)) c
          (fun R' c K' => cond v (exec Γ C J cx a R' { c with T := c.T.set t (one (.bool true)) } K') (exec Γ C J cx b R' { c with T := c.T.set t (one (.bool false)) } K')) K
      | _ => cond v (exec Γ C J cx a R c K) (exec Γ C J cx b R c K)
    | .av (.one (.ub p v)) => match o with
      | .tmp t => agreeC p v (exec Γ C J cx a R { c with T := c.T.set t (one (.bool true)) } K) (exec Γ C J cx b R { c with T := c.T.set t (one (.bool false)) } K)
      | _ => none
    | _ => none
  | cx, .block id (.loop body), R, c, K => match (J cx).unr id with
   | n + 1 => unrollX (fun i K c => exec Γ C J (cx * 16 + i + 1) body R c K) (blockK id K) (n + 1) 0 c
   | 0 => match (J cx).loop id with
    | none => none
    | some l => loopIn (asg body) l (nilCf l.ins c) (blockK id K)
  | cx, .block id b, R, c, K => joinX ((J cx).blk id) (asg b) c (fun R' c K' => exec Γ C J cx b R' c (blockK id K')) K
  | cx, .scope b, R, c, K => exec Γ C J cx b R c K
  | cx, .exit id, _, c, K => K (.exit id) c
  | cx, .ret, _, c, K => K .ret c
  | cx, _, _, _, _ => none

/-- Where a way out of a round leads. -/
def wayOut {R : Type} (l : LD) (out : Nat → List Leaf → Option R) (x : Ex) (c : Cf) : List (Ex × Shp) → Nat → Option R
  | [], _ => none
  | (y, s) :: r, i => match x, y with
    | .exit a, .exit b => if a = b then (projOut s l.ins.bs.length l.mov l.wr c).bind (out i) else wayOut l out x c r (i + 1)
    | .ret, .ret => (projOut s l.ins.bs.length l.mov l.wr c).bind (out i)
    | _, _ => wayOut l out x c r (i + 1)

/-- What becomes of a round: the loop again, or a way out. -/
def loopK (l : LD) (next : PT l.its → Option (SumT l.ots)) (x : Ex) (c : Cf) : Option (SumT l.ots) :=
  match x with
  | .normal => if wOk l.ins.bs.length c.W l.mov l.wr then ((projShp l.ins l.ins.bs.length l.mov (nilCf l.ins c).T (nilCf l.ins c).H).bind (decP l.its)).bind next else none
  | x => wayOut l (injS l.ots) x c l.outs 0

/-- One round. -/
noncomputable def loopStep (Γ : Tab) (C : Nat → List GS) (J : Nat → Hint) (cx nt : Nat) (l : LD) (body : Code) (next : PT l.its → Option (SumT l.ots)) (x : PT l.its) : Option (SumT l.ots) :=
  match embHead nt l.ins (encP l.its x) with
  | some ch => exec Γ C J cx body (SumT l.ots) ch (loopK l next)
  | none => none

/-- Rounds, so many at most. -/
def loopF {A R : Type} (b : (A → Option R) → A → Option R) : Nat → A → Option R
  | 0, _ => none
  | k + 1, x => b (loopF b k) x

/-! A function -/

def resA (Γ : Tab) (c : Cf) : List ResultVar → Option (List AV)
  | [] => some []
  | r :: rs => match (match r with
      | .tmp t => (match c.T.getD t unkT with | .av v => some v | _ => none)
      | .cell a t => (match tvAC (c.T.getD a unkT) with
        | some p => (match loadA (hget c.H) (hlink c.H) Γ t p with
          | some q => match q.chk, q.run with
            | true, some x => (match (q.k x).v with | .av v => some v | _ => none)
            | _, _ => none
          | none => none)
        | none => none)), resA Γ c rs with
    | some v, some l => some (v :: l)
    | _, _ => none

def resTV : List AV → TV
  | [v] => .av v
  | l => .tup l

/-- A function's end, by a shape; 'mov': blocks that went in and come back under other numbers. -/
def projFn (s : Shp) (n : Nat) (mov : List Nat) (c : Cf) : Option (List Leaf) :=
  if movFree s n (nilCf s c).T (nilCf s c).H mov then projShp s n mov (nilCf s c).T (nilCf s c).H else none

/-- The first way that fits. -/
def wayF {R : Type} (n : Nat) (out : Nat → List Leaf → Option R) (c : Cf) : List (Shp × List Nat) → Nat → Option R
  | [], _ => none
  | (s, mov) :: r, i => match projFn s n mov c with
    | some lv => out i lv
    | none => wayF n out c r (i + 1)

/-- What a function's body comes to: its result and blocks, by a shape. -/
noncomputable def fnK (Γ : Tab) (rs : List ResultVar) (g : GS) (outs : List (Shp × List Nat)) (n : Nat) (x : Ex) (c : Cf) : Option (SumT g.ots) :=
  match x with
  | .exit _ => none
  | _ => match resA Γ c rs with
    | some l => wayF n (injS g.ots) ⟨[resTV l], c.H, []⟩ outs 0
    | none => none

def padT (n : Nat) (T : List TV) : List TV := T ++ List.replicate (n - T.length) unkT

end
end Go.Rf

set_option linter.unusedVariables false
set_option linter.unusedSimpArgs false
set_option linter.unusedSectionVars false
namespace Go.Rf
open Go

/-- Memory that nobody writes: block, place. -/
abbrev Rom := Nat → Nat → Option Value

/-- What a package-level variable holds (its place in memory, its value): laid by the program's text. -/
def R0 : Rom
  | 0, 0 => some (.iface 205 (.agg #[.pointer (some ⟨1, 48, none⟩)]))
  | _, _ => none

/-- Where a block lies: the model's block, the first place, how many places are its own, how many elements it has. -/
structure RE where
  b : Nat
  o : Nat
  ext : Nat
  n : Nat
  own : Nat → Nat → Prop      -- of a block of rows: the rows' memory
  hs : List Value             -- of a block of rows: its cells

/-- Of a block without rows. -/
abbrev RE.mkP (b o ext n : Nat) : RE := ⟨b, o, ext, n, fun _ _ => False, []⟩

abbrev RM := Nat → Option RE

def RE.has (r : RE) (b o : Nat) : Prop := (r.b = b ∧ r.o ≤ o ∧ o < r.o + r.ext) ∨ r.own b o

def Reads (rom : Rom) (b o : Nat) (cs : List Value) : Prop := ∀ j v, cs[j]? = some v → rom b (o + j) = some v

def LRel {α : Type} (R : α → List Value → Prop) : List α → List Value → Prop
  | [], cs => cs = []
  | x :: xs, cs => ∃ c d, cs = c ++ d ∧ R x c ∧ LRel R xs d

def R2 {α β : Type} (R : α → β → Prop) : List α → List β → Prop
  | [], [] => True
  | a :: x, b :: y => R a b ∧ R2 R x y
  | _, _ => False

def strV (s : List UInt8) : Value := .string ⟨⟨s⟩⟩

def EK.Rel (rom : Rom) : (k : EK) → k.T → List Value → Prop
  | .int k, x, cs => cs = [.int k x]
  | .bool, x, cs => cs = [.bool x]
  | .str, s, cs => cs = [strV s]
  | .sl k, l, cs => ∃ base cap, cs = [.slice base l.length cap] ∧ l.length ≤ cap ∧
      (l = [] ∨ ∃ b o ds, base = some ⟨b, o, none⟩ ∧ Reads rom b o ds ∧ LRel (EK.Rel rom k) l ds)
  | .arr n k, l, cs => l.length = n ∧ LRel (EK.Rel rom k) l cs
  | .pair a b, x, cs => ∃ c d, cs = c ++ d ∧ EK.Rel rom a x.1 c ∧ EK.Rel rom b x.2 d
  | .unit, _, cs => cs = []

def PRel (ρ : RM) (p : Ptr) (v : Value) : Prop := ∃ r, ρ p.id = some r ∧ v = .pointer (some ⟨r.b, r.o + p.i * p.esz + p.j, none⟩)

def ErrRel (rom : Rom) (o : Bool) (e : Int) : Nat → Value → Prop
  | 0, v => v = cond o (.iface errT.2.1 (.agg #[])) (.iface errT.1 (.int .i64 e))
  | d + 1, v => ∃ b p s1 s2 u, v = .iface errT.2.2 (.pointer (some ⟨b, p, none⟩)) ∧ rom b p = some (strV s1) ∧ rom b (p + 1) = some (strV s2) ∧ rom b (p + 2) = some u ∧ ErrRel rom o e d u

theorem ErrRel.mono {rom rom' : Rom} (hr : ∀ b o v, rom b o = some v → rom' b o = some v) {o : Bool} {e : Int} : ∀ {d : Nat} {v : Value}, ErrRel rom o e d v → ErrRel rom' o e d v
  | 0, _, h => h
  | _ + 1, _, ⟨b, p, s1, s2, u, h1, h2, h3, h4, h5⟩ => ⟨b, p, s1, s2, u, h1, hr _ _ _ h2, hr _ _ _ h3, hr _ _ _ h4, ErrRel.mono hr h5⟩

def CRel (rom : Rom) (ρ : RM) : AC → Value → Prop
  | .int k n, v => v = .int k n
  | .bool b, v => v = .bool b
  | .str s, v => v = strV s
  | .nilp, v => v = .pointer none
  | .ptr p, v => PRel ρ p v
  | .nils, v => v = .slice none 0 0
  | .slw id esz, v => ∃ r base cap, ρ id = some r ∧ v = .slice base r.n cap ∧ (cap ≠ 0 → base = some ⟨r.b, r.o, none⟩) ∧ r.n ≤ cap ∧ cap * esz ≤ r.ext
  | .sl id esz off len cap, v => ∃ r base c, ρ id = some r ∧ v = .slice base len c ∧ (c ≠ 0 → base = some ⟨r.b, r.o + off * esz, none⟩) ∧ len ≤ c ∧ (off + c) * esz ≤ r.ext ∧ (∀ n, cap = some n → c = n)
  | .rsl k l, v => EK.Rel rom (.sl k) l [v]
  | .rptr k x j, v => ∃ b o cs, v = .pointer (some ⟨b, o + j, none⟩) ∧ Reads rom b o cs ∧ EK.Rel rom k x cs
  | .fn f caps, v => ∃ l : List Value, v = .func (.func f) #[] l.toArray ∧ R2 (PRel ρ) caps l
  | .nilfn, v => v = .nilFunc
  | .unk, _ => True
  | .ub p b, v => ∃ x, v = .bool x ∧ (p = false → x = b)
  | .row id i, v => ∃ r, ρ id = some r ∧ r.hs[i]? = some v
  | .prow id i t, v => ∃ r b o len cap, ρ id = some r ∧ r.hs[i]? = some (.slice (some ⟨b, o, none⟩) len cap) ∧ v = .pointer (some ⟨b, o + t, none⟩)
  | .nili, v => v = .nilIface
  | .ierr o e d, v => ErrRel rom o e d v

def SegRel (rom : Rom) (ρ : RM) : Seg → List Value → Prop
  | .one c, cs => ∃ v, cs = [v] ∧ CRel rom ρ c v
  | .arr k n l, cs => (∀ m, n = some m → l.length = m) ∧ LRel (EK.Rel rom k) l cs
  | .acs l, cs => R2 (CRel rom ρ) l cs
  | .deep _ l, cs => cs.length = l.length

def AVRel (rom : Rom) (ρ : RM) : AV → Value → Prop
  | .one c, v => CRel rom ρ c v
  | .agg l, v => ∃ cs : List Value, v = .agg cs.toArray ∧ LRel (SegRel rom ρ) l cs

def TVRel (rom : Rom) (ρ : RM) : TV → Value → Prop
  | .av a, v => AVRel rom ρ a v
  | .tup l, v => ∃ vs : List Value, v = .tuple vs.toArray ∧ R2 (AVRel rom ρ) l vs

/-- How many elements a block has. -/
def glen : Seg → Nat → Prop
  | .one _, _ => True
  | .arr _ none l, n => l.length = n
  | .arr _ (some _) _, _ => True
  | .acs l, n => l.length = n
  | .deep _ l, n => l.length = n

/-- May some cell of a block not be written? (what lies frozen behind all cells does not count) -/
def frz (w : World) (b : Nat) : Bool := match w.heap[b]? with
  | some (.cells c _ (lo, hi)) => !(decide (lo = hi) || decide (c.size ≤ lo))
  | _ => true

/-- The rows of a block of rows: row by row, each in memory of its own. -/
structure DRel (w : World) (k : IntKind) (l : List (List Int)) (r : RE) : Prop where
  len : r.hs.length = l.length
  ext : r.hs.length ≤ r.ext
  main : ∀ (i : Nat) (v : Value), r.hs[i]? = some v → w.cell? ⟨r.b, r.o + i, none⟩ = some v
  head : ∀ (i : Nat) (x : List Int), l[i]? = some x → ∃ (base : Option Addr) (cap : Nat), r.hs[i]? = some (Value.slice base x.length cap) ∧ x.length ≤ cap ∧ (cap ≠ 0 → ∃ b o, base = some ⟨b, o, none⟩)
  row : ∀ (i : Nat) (x : List Int), l[i]? = some x → ∀ (b o len cap : Nat), r.hs[i]? = some (Value.slice (some ⟨b, o, none⟩) len cap) → ∀ (t : Nat) (n : Int), x[t]? = some n → w.cell? ⟨b, o + t, none⟩ = some (.int k n) ∧ r.own b (o + t)
  apart : ∀ (i j : Nat), i ≠ j → ∀ (b o len cap : Nat), r.hs[i]? = some (Value.slice (some ⟨b, o, none⟩) len cap) → ∀ (o' len' cap' : Nat), r.hs[j]? = some (Value.slice (some ⟨b, o', none⟩) len' cap') →
    ∀ t t', t < len → t' < len' → o + t = o' + t' → False
  there : ∀ b o, r.own b o → (w.cell? ⟨b, o, none⟩).isSome = true ∧ frz w b = false
  out : ∀ b o, r.own b o → ¬ (r.b = b ∧ r.o ≤ o ∧ o < r.o + r.ext)

/-- What a block has besides. -/
def XRel (w : World) : Seg → RE → Prop
  | .deep k l, r => DRel w k l r
  | _, r => ∀ b o, ¬ r.own b o

def Seg.flat : Seg → Bool
  | .deep _ _ => false
  | _ => true

/-- A block in memory. -/
structure BRel (rom : Rom) (ρ : RM) (w : World) (g : Seg) (r : RE) : Prop where
  cells : ∃ cs, SegRel rom ρ g cs ∧ cs.length ≤ r.ext ∧ ∀ j v, cs[j]? = some v → w.cell? ⟨r.b, r.o + j, none⟩ = some v
  len : glen g r.n
  there : ∀ j, j < r.ext → (w.cell? ⟨r.b, r.o + j, none⟩).isSome = true ∧ frz w r.b = false
  ex : XRel w g r

theorem Seg.flat_of_width {g : Seg} {n : Nat} (h : g.width = some n) : g.flat = true := by
  cases g <;> first | rfl | simp [Seg.width] at h

theorem XRel.flat {w : World} {g : Seg} {r : RE} (hf : g.flat = true) : XRel w g r ↔ ∀ b o, ¬ r.own b o := by
  cases g <;> first | exact Iff.rfl | cases hf

theorem XRel.mk {w : World} {g : Seg} {b o e n : Nat} (hf : g.flat = true) : XRel w g (.mkP b o e n) := (XRel.flat hf).2 fun _ _ h => h

theorem RE.has_flat {r : RE} (h : ∀ b o, ¬ r.own b o) {b o : Nat} : r.has b o ↔ (r.b = b ∧ r.o ≤ o ∧ o < r.o + r.ext) :=
  ⟨fun hh => hh.elim id fun h1 => absurd h1 (h _ _), .inl⟩

theorem RE.mkP_has {b0 o0 e n b o : Nat} (h : (RE.mkP b0 o0 e n).has b o) : b0 = b ∧ o0 ≤ o ∧ o < o0 + e := h.elim id False.elim

structure Rel (rom : Rom) (ρ : RM) (hg : Nat → Option Seg) (w : World) : Prop where
  blk : ∀ id g, hg id = some g → ∃ r, ρ id = some r ∧ BRel rom ρ w g r
  dis : ∀ id id' g g' r r', hg id = some g → hg id' = some g' → id ≠ id' → ρ id = some r → ρ id' = some r' → ∀ b o, r.has b o → r'.has b o → False
  rm : ∀ b o v, rom b o = some v → w.cell? ⟨b, o, none⟩ = some v ∧ ∀ id g r, hg id = some g → ρ id = some r → ¬ r.has b o
  base : ∀ b o v, R0 b o = some v → rom b o = some v

/-- Blocks that lie side by side. -/
def Lnk (ρ : RM) (hg : Nat → Option Seg) (lk : Nat → Bool) : Prop :=
  ∀ id r g w, lk id = true → ρ id = some r → hg id = some g → g.width = some w → r.ext = w ∧ ∃ r', ρ (id + 1) = some r' ∧ r'.b = r.b ∧ r'.o = r.o + w

/-- What is one's own, of what was there. -/
def Own (hg : Nat → Option Seg) (ρ : RM) (b o : Nat) : Prop := ∃ id g r, hg id = some g ∧ ρ id = some r ∧ r.has b o

/-- From a state to a later one. -/
structure Tr (rom : Rom) (ρ : RM) (hg : Nat → Option Seg) (w : World) (rom' : Rom) (ρ' : RM) (hg' : Nat → Option Seg) (w' : World) : Prop where
  rl : ∀ b o v, rom b o = some v → rom' b o = some v
  hl : ∀ id r, ρ id = some r → ρ' id = some r
  size : w.heap.size ≤ w'.heap.size
  os : w'.os = w.os
  tape : w'.tape = w.tape
  output : w'.output = w.output
  u1 : ∀ b, b < w.heap.size → (∀ o, ¬ Own hg ρ b o) → w'.heap[b]? = w.heap[b]?
  u2 : ∀ b o, b < w.heap.size → ¬ Own hg ρ b o → w'.cell? ⟨b, o, none⟩ = w.cell? ⟨b, o, none⟩ ∧ frz w' b = frz w b
  fresh : ∀ b o, Own hg' ρ' b o → b < w.heap.size → Own hg ρ b o
  rfresh : ∀ b o v, rom' b o = some v → rom b o = none → b < w.heap.size → Own hg ρ b o

theorem Tr.refl (rom : Rom) (ρ : RM) (hg : Nat → Option Seg) (w : World) : Tr rom ρ hg w rom ρ hg w :=
  ⟨fun _ _ _ h => h, fun _ _ h => h, Nat.le_refl _, rfl, rfl, rfl, fun _ _ _ => rfl, fun _ _ _ _ => ⟨rfl, rfl⟩, fun _ _ h _ => h, fun _ _ _ h1 h2 _ => by rw [h2] at h1; cases h1⟩

theorem Tr.trans {rom rom1 rom2 : Rom} {ρ ρ1 ρ2 : RM} {hg hg1 hg2 : Nat → Option Seg} {w w1 w2 : World}
    (a : Tr rom ρ hg w rom1 ρ1 hg1 w1) (b : Tr rom1 ρ1 hg1 w1 rom2 ρ2 hg2 w2) : Tr rom ρ hg w rom2 ρ2 hg2 w2 where
  rl := fun x o v h => b.rl _ _ _ (a.rl _ _ _ h)
  hl := fun i r h => b.hl _ _ (a.hl _ _ h)
  size := Nat.le_trans a.size b.size
  os := b.os.trans a.os
  tape := b.tape.trans a.tape
  output := b.output.trans a.output
  u1 := fun k hk h => (b.u1 k (Nat.lt_of_lt_of_le hk a.size) (fun o ho => h o (a.fresh k o ho hk))).trans (a.u1 k hk h)
  u2 := fun k o hk h => by
    obtain ⟨p, q⟩ := a.u2 k o hk h
    obtain ⟨p', q'⟩ := b.u2 k o (Nat.lt_of_lt_of_le hk a.size) (fun ho => h (a.fresh k o ho hk))
    exact ⟨p'.trans p, q'.trans q⟩
  fresh := fun k o ho hk => a.fresh k o (b.fresh k o ho (Nat.lt_of_lt_of_le hk a.size)) hk
  rfresh := fun k o v h1 h0 hk => by
    cases hr : rom1 k o with
    | none => exact a.fresh k o (b.rfresh k o v h1 hr (Nat.lt_of_lt_of_le hk a.size)) hk
    | some u => exact a.rfresh k o u hr h0 hk

/-! Rows -/

theorem LRel.mono {α : Type} {R R' : α → List Value → Prop} (h : ∀ x c, R x c → R' x c) : ∀ (xs : List α) (cs : List Value), LRel R xs cs → LRel R' xs cs
  | [], _, hc => hc
  | x :: xs, cs, ⟨c, d, e, hx, hd⟩ => ⟨c, d, e, h _ _ hx, LRel.mono h xs d hd⟩

theorem LRel.append {α : Type} {R : α → List Value → Prop} : ∀ {xs ys : List α} {cs ds : List Value}, LRel R xs cs → LRel R ys ds → LRel R (xs ++ ys) (cs ++ ds)
  | [], ys, cs, ds, h, h' => by simp only [LRel] at h; subst h; simpa using h'
  | x :: xs, ys, cs, ds, ⟨c, d, e, hx, hd⟩, h' => ⟨c, d ++ ds, by simp [e], hx, LRel.append hd h'⟩

theorem LRel.split {α : Type} {R : α → List Value → Prop} : ∀ {xs ys : List α} {cs : List Value}, LRel R (xs ++ ys) cs → ∃ c d, cs = c ++ d ∧ LRel R xs c ∧ LRel R ys d
  | [], ys, cs, h => ⟨[], cs, rfl, rfl, h⟩
  | x :: xs, ys, cs, ⟨c, d, e, hx, hd⟩ => by
    obtain ⟨c', d', e', h1, h2⟩ := LRel.split hd
    exact ⟨c ++ c', d', by simp [e, e'], ⟨c, c', rfl, hx, h1⟩, h2⟩

theorem LRel.length {α : Type} {R : α → List Value → Prop} {s : Nat} (h : ∀ x c, R x c → c.length = s) : ∀ {xs : List α} {cs : List Value}, LRel R xs cs → cs.length = xs.length * s
  | [], _, hc => by simp only [LRel] at hc; subst hc; simp
  | x :: xs, cs, ⟨c, d, e, hx, hd⟩ => by
    have := LRel.length h hd
    have := h _ _ hx
    subst e
    simp [*, Nat.add_mul]; omega

theorem LRel.get {α : Type} {R : α → List Value → Prop} {s : Nat} (h : ∀ x c, R x c → c.length = s) : ∀ {xs : List α} {cs : List Value}, LRel R xs cs → ∀ (i : Nat) (hi : i < xs.length),
    ∃ p c q, cs = p ++ c ++ q ∧ p.length = i * s ∧ R xs[i] c
  | x :: xs, cs, ⟨c, d, e, hx, hd⟩, 0, _ => ⟨[], c, d, by simp [e], by simp, hx⟩
  | x :: xs, cs, ⟨c, d, e, hx, hd⟩, i + 1, hi => by
    obtain ⟨p, c', q, e', hp, hc⟩ := LRel.get h hd i (by simpa using hi)
    have := h _ _ hx
    exact ⟨c ++ p, c', q, by simp [e, e'], by simp [*, Nat.add_mul]; omega, by simpa using hc⟩

theorem LRel.set {α : Type} {R : α → List Value → Prop} {s : Nat} (h : ∀ x c, R x c → c.length = s) : ∀ {xs : List α} {cs : List Value}, LRel R xs cs → ∀ (i : Nat) (x : α) (c : List Value), i < xs.length → R x c →
    LRel R (xs.set i x) (cs.take (i * s) ++ c ++ cs.drop (i * s + s))
  | y :: xs, cs, ⟨d, r, e, hy, hr⟩, 0, x, c, _, hx => by
    have := h _ _ hy
    subst e
    refine ⟨c, r, ?_, hx, hr⟩
    have : (d ++ r).drop s = r := by rw [← this]; simp
    simp [this]
  | y :: xs, cs, ⟨d, r, e, hy, hr⟩, i + 1, x, c, hi, hx => by
    have hl := h _ _ hy
    subst e
    have ih := LRel.set h hr i x c (by simpa using hi) hx
    refine ⟨d, _, ?_, hy, ih⟩
    have e1 : (d ++ r).take ((i + 1) * s) = d ++ r.take (i * s) := by
      rw [List.take_append, List.take_of_length_le (by rw [hl, Nat.add_mul]; omega)]
      congr 2
      rw [hl, Nat.add_mul]; omega
    have e2 : (d ++ r).drop ((i + 1) * s + s) = r.drop (i * s + s) := by
      rw [List.drop_append, List.drop_of_length_le (by rw [hl, Nat.add_mul]; omega), List.nil_append]
      congr 1
      rw [hl, Nat.add_mul]; omega
    rw [e1, e2]
    simp

theorem LRel.replicate {α : Type} {R : α → List Value → Prop} {x : α} {c : List Value} (h : R x c) : ∀ n, LRel R (List.replicate n x) (List.replicate n c).flatten
  | 0 => by simp [LRel]
  | n + 1 => ⟨c, _, by simp [List.replicate_succ], h, LRel.replicate h n⟩

theorem LRel.take_drop {α : Type} {R : α → List Value → Prop} {s : Nat} (h : ∀ x c, R x c → c.length = s) {xs : List α} {cs : List Value} (hr : LRel R xs cs) (i : Nat) (hi : i ≤ xs.length) :
    LRel R (xs.take i) (cs.take (i * s)) ∧ LRel R (xs.drop i) (cs.drop (i * s)) := by
  rw [← List.take_append_drop i xs] at hr
  obtain ⟨c, d, e, h1, h2⟩ := LRel.split hr
  have hl := LRel.length h h1
  have hl' : c.length = i * s := by rw [hl]; simp [Nat.min_eq_left hi]
  subst e
  rw [← hl']
  simp [h1, h2]

theorem EK.Rel.length {rom : Rom} : ∀ {k : EK} {x : k.T} {cs : List Value}, EK.Rel rom k x cs → cs.length = k.size
  | .int _, _, cs, h => by simp only [EK.Rel] at h; simp [h, EK.size]
  | .bool, _, cs, h => by simp only [EK.Rel] at h; simp [h, EK.size]
  | .str, _, cs, h => by simp only [EK.Rel] at h; simp [h, EK.size]
  | .sl _, _, cs, h => by obtain ⟨_, _, e, _⟩ := h; simp [e, EK.size]
  | .arr n k, l, cs, h => by
    obtain ⟨hn, hl⟩ := h
    have := LRel.length (fun x c hx => EK.Rel.length (k := k) hx) hl
    rw [this, hn, EK.size]
  | .pair a b, x, cs, h => by
    obtain ⟨c, d, e, hc, hd⟩ := h
    have := EK.Rel.length hc
    have := EK.Rel.length hd
    simp [e, EK.size, *]
  | .unit, _, cs, h => by simp only [EK.Rel] at h; simp [h, EK.size]

theorem Reads.mono {rom rom' : Rom} (h : ∀ b o v, rom b o = some v → rom' b o = some v) {b o : Nat} {cs : List Value} (hr : Reads rom b o cs) : Reads rom' b o cs :=
  fun j v hv => h _ _ _ (hr j v hv)

theorem EK.Rel.mono {rom rom' : Rom} (h : ∀ b o v, rom b o = some v → rom' b o = some v) : ∀ {k : EK} {x : k.T} {cs : List Value}, EK.Rel rom k x cs → EK.Rel rom' k x cs
  | .int _, _, cs, h => h
  | .bool, _, cs, h => h
  | .str, _, cs, h => h
  | .sl k, l, cs, ⟨base, cap, e, hc, hl⟩ => ⟨base, cap, e, hc, hl.imp id fun ⟨b, o, ds, e1, e2, e3⟩ => ⟨b, o, ds, e1, e2.mono h, LRel.mono (fun x c hx => EK.Rel.mono h (k := k) hx) _ _ e3⟩⟩
  | .arr n k, l, cs, ⟨hn, hl⟩ => ⟨hn, LRel.mono (fun x c hx => EK.Rel.mono h (k := k) hx) _ _ hl⟩
  | .pair a b, x, cs, ⟨c, d, e, hc, hd⟩ => ⟨c, d, e, EK.Rel.mono h hc, EK.Rel.mono h hd⟩
  | .unit, _, cs, h => h

theorem R2.mono {α β : Type} {R R' : α → β → Prop} (h : ∀ a b, R a b → R' a b) : ∀ (x : List α) (y : List β), R2 R x y → R2 R' x y
  | [], [], _ => trivial
  | _ :: x, _ :: y, ⟨a, b⟩ => ⟨h _ _ a, R2.mono h x y b⟩
  | [], _ :: _, hc => hc
  | _ :: _, [], hc => hc

theorem R2.length {α β : Type} {R : α → β → Prop} : ∀ {x : List α} {y : List β}, R2 R x y → x.length = y.length
  | [], [], _ => rfl
  | _ :: x, _ :: y, ⟨_, b⟩ => by simp [R2.length b]
  | [], _ :: _, hc => hc.elim
  | _ :: _, [], hc => hc.elim

theorem R2.get {α β : Type} {R : α → β → Prop} : ∀ {x : List α} {y : List β}, R2 R x y → ∀ (i : Nat) (a : α), x[i]? = some a → ∃ b, y[i]? = some b ∧ R a b
  | a :: x, b :: y, ⟨h, _⟩, 0, c, hc => by simp at hc; subst hc; exact ⟨b, by simp, h⟩
  | a :: x, b :: y, ⟨_, h⟩, i + 1, c, hc => by simpa using R2.get h i c (by simpa using hc)
  | [], [], _, i, c, hc => by simp at hc
  | [], _ :: _, hc, _, _, _ => hc.elim
  | _ :: _, [], hc, _, _, _ => hc.elim

theorem R2.append {α β : Type} {R : α → β → Prop} : ∀ {x x' : List α} {y y' : List β}, R2 R x y → R2 R x' y' → R2 R (x ++ x') (y ++ y')
  | [], x', [], y', _, h => h
  | _ :: x, x', _ :: y, y', ⟨a, b⟩, h => ⟨a, R2.append b h⟩
  | [], _, _ :: _, _, hc, _ => hc.elim
  | _ :: _, _, [], _, hc, _ => hc.elim

theorem R2.map {α β γ : Type} {R : α → β → Prop} {S : γ → β → Prop} {f : α → γ} (h : ∀ a b, R a b → S (f a) b) : ∀ {x : List α} {y : List β}, R2 R x y → R2 S (x.map f) y
  | [], [], _ => trivial
  | _ :: x, _ :: y, ⟨a, b⟩ => ⟨h _ _ a, R2.map h b⟩
  | [], _ :: _, hc => hc.elim
  | _ :: _, [], hc => hc.elim

theorem R2.set {α β : Type} {R : α → β → Prop} : ∀ {x : List α} {y : List β}, R2 R x y → ∀ (i : Nat) (a : α) (b : β), R a b → R2 R (x.set i a) (y.set i b)
  | [], [], _, _, _, _, _ => by simp [R2]
  | _ :: x, _ :: y, ⟨_, h⟩, 0, a, b, hr => ⟨hr, h⟩
  | _ :: x, _ :: y, ⟨h0, h⟩, i + 1, a, b, hr => ⟨h0, R2.set h i a b hr⟩
  | [], _ :: _, hc, _, _, _, _ => hc.elim
  | _ :: _, [], hc, _, _, _, _ => hc.elim

/-! The relations carry over -/

section
variable {rom rom' : Rom} {ρ ρ' : RM} (hr : ∀ b o v, rom b o = some v → rom' b o = some v) (hl : ∀ id r, ρ id = some r → ρ' id = some r)
include hr hl

theorem PRel.mono {p : Ptr} {v : Value} : PRel ρ p v → PRel ρ' p v := fun ⟨r, h, e⟩ => ⟨r, hl _ _ h, e⟩

theorem CRel.mono {c : AC} {v : Value} (h : CRel rom ρ c v) : CRel rom' ρ' c v := by
  cases c with
  | ptr p => exact PRel.mono hr hl h
  | slw id esz => obtain ⟨r, base, cap, h1, h2⟩ := h; exact ⟨r, base, cap, hl _ _ h1, h2⟩
  | sl id esz off len cap => obtain ⟨r, base, c, h1, h2⟩ := h; exact ⟨r, base, c, hl _ _ h1, h2⟩
  | rsl k l => exact EK.Rel.mono hr (k := .sl k) h
  | rptr k x j => obtain ⟨b, o, cs, e, h1, h2⟩ := h; exact ⟨b, o, cs, e, h1.mono hr, EK.Rel.mono hr h2⟩
  | fn f caps => obtain ⟨l, e, h1⟩ := h; exact ⟨l, e, R2.mono (fun _ _ => PRel.mono hr hl) _ _ h1⟩
  | row id i => obtain ⟨r, h1, h2⟩ := h; exact ⟨r, hl _ _ h1, h2⟩
  | prow id i t => obtain ⟨r, b, o, len, cap, h1, h2⟩ := h; exact ⟨r, b, o, len, cap, hl _ _ h1, h2⟩
  | ierr o e d => exact ErrRel.mono hr h
  | _ => exact h

theorem SegRel.mono {g : Seg} {cs : List Value} (h : SegRel rom ρ g cs) : SegRel rom' ρ' g cs := by
  cases g with
  | one c => obtain ⟨v, e, h⟩ := h; exact ⟨v, e, CRel.mono hr hl h⟩
  | arr k n l => exact ⟨h.1, LRel.mono (fun x c hx => EK.Rel.mono hr hx) _ _ h.2⟩
  | acs l => exact R2.mono (fun _ _ => CRel.mono hr hl) _ _ h
  | deep k l => exact h

theorem AVRel.mono {a : AV} {v : Value} (h : AVRel rom ρ a v) : AVRel rom' ρ' a v := by
  cases a with
  | one c => exact CRel.mono hr hl h
  | agg l => obtain ⟨cs, e, h⟩ := h; exact ⟨cs, e, LRel.mono (fun _ _ => SegRel.mono hr hl) _ _ h⟩

theorem TVRel.mono {a : TV} {v : Value} (h : TVRel rom ρ a v) : TVRel rom' ρ' a v := by
  cases a with
  | av a => exact AVRel.mono hr hl h
  | tup l => obtain ⟨vs, e, h⟩ := h; exact ⟨vs, e, R2.mono (fun _ _ => AVRel.mono hr hl) _ _ h⟩

theorem R2.monoT {x : List TV} {y : List Value} (h : R2 (TVRel rom ρ) x y) : R2 (TVRel rom' ρ') x y := R2.mono (fun _ _ => TVRel.mono hr hl) _ _ h

end

/-- The temporaries. -/
def TRel (rom : Rom) (ρ : RM) (T : List TV) (tmps : Array Value) : Prop := R2 (TVRel rom ρ) T tmps.toList

theorem TRel.get {rom : Rom} {ρ : RM} {T : List TV} {tmps : Array Value} (h : TRel rom ρ T tmps) (t : Nat) : TVRel rom ρ (T.getD t unkT) (tmps.getD t undef) := by
  cases ht : T[t]? with
  | none => simp [List.getD, ht, unkT, TVRel, AVRel, CRel]
  | some a =>
    obtain ⟨v, hv, hr⟩ := R2.get h t a ht
    have : tmps[t]? = some v := by simpa using hv
    simp [List.getD, ht, this, hr]

theorem R2.set_left {α β : Type} {R : α → β → Prop} : ∀ {x : List α} {y : List β}, R2 R x y → ∀ (i : Nat) (a : α), (∀ b, y[i]? = some b → R a b) → R2 R (x.set i a) y
  | [], [], _, _, _, _ => by simp [R2]
  | _ :: x, b :: y, ⟨_, h⟩, 0, a, hr => ⟨hr b (by simp), h⟩
  | _ :: x, _ :: y, ⟨h0, h⟩, i + 1, a, hr => ⟨h0, R2.set_left h i a (fun c hc => hr c (by simpa using hc))⟩
  | [], _ :: _, hc, _, _, _ => hc.elim
  | _ :: _, [], hc, _, _, _ => hc.elim

theorem TRel.put {rom : Rom} {ρ : RM} {T : List TV} {a : Act} (h : TRel rom ρ T a.tmps) (d : Option Nat) {v : TV} {u : Value} (hv : TVRel rom ρ v u) : TRel rom ρ (putT T d v) (a.put d u).tmps := by
  cases d with
  | none => exact h
  | some d =>
    unfold TRel Act.put putT
    simp only [Array.toList_setIfInBounds]
    exact R2.set h d v u hv

theorem TRel.forget {rom : Rom} {ρ : RM} {tmps : Array Value} : ∀ (as : List Nat) {T : List TV}, TRel rom ρ T tmps → TRel rom ρ (forget T as) tmps
  | [], _, h => h
  | t :: r, _, h => TRel.forget r (R2.set_left h t unkT (fun _ _ => trivial))

theorem constA_rel (rom : Rom) (ρ : RM) (v : Value) : TVRel rom ρ (constA v) v := by
  unfold constA
  split <;> simp [TVRel, AVRel, CRel, one, unkT, strV]

theorem evalA_rel {rom : Rom} {ρ : RM} {T : List TV} {a : Act} (h : TRel rom ρ T a.tmps) (x : Operand) : TVRel rom ρ (evalA T x) (a.eval x) := by
  cases x with
  | tmp t => exact h.get t
  | const v => exact constA_rel rom ρ v
  | global g => simp [evalA, unkT, TVRel, AVRel, CRel]
  | func f => exact ⟨[], rfl, trivial⟩

end Go.Rf

set_option linter.unusedVariables false
set_option linter.unusedSimpArgs false
set_option linter.unusedSectionVars false
namespace Go.Rf
open Go

def setF {α : Type} (f : Nat → α) (i : Nat) (v : α) : Nat → α := fun j => if j = i then v else f j

@[simp] theorem setF_same {α : Type} (f : Nat → α) (i : Nat) (v : α) : setF f i v i = v := by simp [setF]
theorem setF_ne {α : Type} (f : Nat → α) {i j : Nat} (v : α) (h : j ≠ i) : setF f i v j = f j := by simp [setF, h]

def hgU (hg : Nat → Option Seg) : List (Nat × Option Seg) → Nat → Option Seg
  | [] => hg
  | (i, s) :: r => hgU (setF hg i s) r

def hgN (hg : Nat → Option Seg) : Nat → List (Seg × Bool) → Nat → Option Seg
  | _, [] => hg
  | nid, (g, _) :: r => setF (hgN hg (nid + 1) r) nid (some g)

def lkN (lk : Nat → Bool) : Nat → List (Seg × Bool) → Nat → Bool
  | _, [] => lk
  | nid, (_, b) :: r => setF (lkN lk (nid + 1) r) nid b

def hgA (hg : Nat → Option Seg) (nid : Nat) (e : Eff) : Nat → Option Seg := hgN (hgU hg e.upd) nid e.new

theorem frz_of_block {w w' : World} {b : Nat} (h : w'.heap[b]? = w.heap[b]?) : frz w' b = frz w b := by simp [frz, h]

theorem frz_setCell (w : World) (a : Addr) (v : Value) (b : Nat) : frz (w.setCell a v) b = frz w b := by
  unfold frz World.setCell
  by_cases e : a.block = b
  · subst e
    cases h : w.heap[a.block]? with
    | none => simp [Array.getElem?_modify, h]
    | some x =>
      cases x <;> simp [Array.getElem?_modify, h]
      split <;> simp
  · simp [Array.getElem?_modify, e]

theorem frz_setCells (b0 : Nat) : ∀ (vs : List Value) (o : Nat) (w : World) (b : Nat), frz (w.setCells b0 o vs) b = frz w b
  | [], _, _, _ => rfl
  | v :: r, o, w, b => by rw [World.setCells, frz_setCells b0 r, frz_setCell]

theorem frz_alloc_new (w : World) (c : Array Value) (t : TypeId) : frz (w.alloc (.cells c t)) w.heap.size = false := by
  have h : (w.alloc (.cells c t)).heap[w.heap.size]? = some (.cells c t (0, 0)) := heap_alloc_new w _
  unfold frz
  rw [h]
  rfl

theorem frozen_of_frz {w : World} {b o : Nat} (h : frz w b = false) (hc : (w.cell? ⟨b, o, none⟩).isSome = true) : w.frozen? ⟨b, o, none⟩ = false := by
  unfold frz at h
  split at h
  · rename_i c t lo hi hb
    have hlt : o < c.size := by
      simp only [World.cell?, hb] at hc
      simpa using hc
    simp only [Bool.not_eq_false', Bool.or_eq_true, decide_eq_true_eq] at h
    simp only [World.frozen?, hb, Bool.and_eq_false_iff, decide_eq_false_iff_not]
    omega
  · cases h

/-- What holds behind an operation. -/
structure Aft (rom : Rom) (ρ : RM) (hg : Nat → Option Seg) (w : World) (rom' : Rom) (ρ' : RM) (hg' : Nat → Option Seg) (lk' : Nat → Bool) (w' : World) (nid len : Nat) : Prop where
  rel : Rel rom' ρ' hg' w'
  lnk : Lnk ρ' hg' lk'
  tr : Tr rom ρ hg w rom' ρ' hg' w'
  dom : ∀ id, ρ id = none → (id < nid ∨ nid + len ≤ id) → ρ' id = none

theorem Aft.same {rom : Rom} {ρ : RM} {hg : Nat → Option Seg} {lk : Nat → Bool} {w : World} {nid : Nat} (h : Rel rom ρ hg w) (hl : Lnk ρ hg lk) : Aft rom ρ hg w rom ρ hg lk w nid 0 :=
  ⟨h, hl, Tr.refl _ _ _ _, fun _ h _ => h⟩

theorem BRel.mono {rom rom' : Rom} {ρ ρ' : RM} (hr : ∀ b o v, rom b o = some v → rom' b o = some v) (hl : ∀ id r, ρ id = some r → ρ' id = some r) {w : World} {g : Seg} {r : RE} (h : BRel rom ρ w g r) : BRel rom' ρ' w g r := by
  obtain ⟨⟨cs, h1, h2, h3⟩, h4, h5, h6⟩ := h
  exact ⟨⟨cs, SegRel.mono hr hl h1, h2, h3⟩, h4, h5, h6⟩

theorem DRel.world {w w' : World} {k : IntKind} {l : List (List Int)} {r : RE} (h : DRel w k l r)
    (hc : ∀ b o, r.has b o → w'.cell? ⟨b, o, none⟩ = w.cell? ⟨b, o, none⟩ ∧ frz w' b = frz w b) : DRel w' k l r where
  len := h.len
  ext := h.ext
  main := fun i v hi => by
    have hlt := (List.getElem?_eq_some_iff.1 hi).1
    have := h.ext
    rw [(hc _ _ (.inl ⟨rfl, by omega, by omega⟩)).1]; exact h.main i v hi
  head := h.head
  row := fun i x hx b o len cap hi t n hn => by
    obtain ⟨h1, h2⟩ := h.row i x hx b o len cap hi t n hn
    exact ⟨by rw [(hc _ _ (.inr h2)).1]; exact h1, h2⟩
  apart := h.apart
  there := fun b o ho => by
    obtain ⟨h1, h2⟩ := hc b o (.inr ho)
    rw [h1, h2]; exact h.there b o ho
  out := h.out

theorem XRel.world {w w' : World} {g : Seg} {r : RE} (h : XRel w g r)
    (hc : ∀ b o, r.has b o → w'.cell? ⟨b, o, none⟩ = w.cell? ⟨b, o, none⟩ ∧ frz w' b = frz w b) : XRel w' g r := by
  cases g with
  | deep k l => exact DRel.world h hc
  | _ => exact h

theorem BRel.world {rom : Rom} {ρ : RM} {w w' : World} {g : Seg} {r : RE} (h : BRel rom ρ w g r)
    (hc0 : ∀ b o, r.has b o → w'.cell? ⟨b, o, none⟩ = w.cell? ⟨b, o, none⟩ ∧ frz w' b = frz w b) : BRel rom ρ w' g r := by
  obtain ⟨⟨cs, h1, h2, h3⟩, h4, h5, h6⟩ := h
  have hc : ∀ o, (r.b = r.b ∧ r.o ≤ o ∧ o < r.o + r.ext) → w'.cell? ⟨r.b, o, none⟩ = w.cell? ⟨r.b, o, none⟩ ∧ frz w' r.b = frz w r.b := fun o ho => hc0 _ _ (.inl ho)
  refine ⟨⟨cs, h1, h2, fun j v hj => ?_⟩, h4, fun j hj => ?_, h6.world hc0⟩
  · have hlt : j < cs.length := (List.getElem?_eq_some_iff.1 hj).1
    rw [(hc (r.o + j) ⟨rfl, by omega, by omega⟩).1]
    exact h3 j v hj
  · have := hc (r.o + j) ⟨rfl, by omega, by omega⟩
    rw [this.1, this.2]
    exact h5 j hj

section
variable {rom : Rom} {ρ : RM} {hg : Nat → Option Seg} {w w' : World}

theorem Rel.world (h : Rel rom ρ hg w) (hc : ∀ b o, (Own hg ρ b o ∨ ∃ v, rom b o = some v) → w'.cell? ⟨b, o, none⟩ = w.cell? ⟨b, o, none⟩ ∧ frz w' b = frz w b) : Rel rom ρ hg w' where
  blk := fun id g hid => by
    obtain ⟨r, hr, hb⟩ := h.blk id g hid
    exact ⟨r, hr, hb.world fun b o ho => hc _ _ (.inl ⟨id, g, r, hid, hr, ho⟩)⟩
  dis := h.dis
  rm := fun b o v hv => by
    obtain ⟨h1, h2⟩ := h.rm b o v hv
    exact ⟨by rw [(hc b o (.inr ⟨v, hv⟩)).1]; exact h1, h2⟩
  base := h.base

theorem Rel.drop (h : Rel rom ρ hg w) (id : Nat) : Rel rom ρ (setF hg id none) w where
  blk := fun j g hj => by
    by_cases e : j = id
    · subst e; simp at hj
    · rw [setF_ne _ _ e] at hj; exact h.blk j g hj
  dis := fun i j g g' r r' hi hj hne => by
    by_cases e : i = id
    · subst e; simp at hi
    · by_cases e' : j = id
      · subst e'; simp at hj
      · rw [setF_ne _ _ e] at hi; rw [setF_ne _ _ e'] at hj; exact h.dis i j g g' r r' hi hj hne
  rm := fun b o v hv => by
    obtain ⟨h1, h2⟩ := h.rm b o v hv
    refine ⟨h1, fun j g r hj => ?_⟩
    by_cases e : j = id
    · subst e; simp at hj
    · rw [setF_ne _ _ e] at hj; exact h2 j g r hj
  base := h.base

theorem Own.drop {id b o : Nat} (h : Own (setF hg id none) ρ b o) : Own hg ρ b o := by
  obtain ⟨j, g, r, hj, hr, ho⟩ := h
  by_cases e : j = id
  · subst e; simp at hj
  · rw [setF_ne _ _ e] at hj; exact ⟨j, g, r, hj, hr, ho⟩

theorem Rel.add (h : Rel rom ρ hg w) {id : Nat} {g : Seg} {r : RE} (hid : ρ id = none) (hgid : hg id = none) (hb : BRel rom ρ w g r)
    (hf : ∀ b o, r.has b o → ¬ Own hg ρ b o ∧ rom b o = none) : Rel rom (setF ρ id (some r)) (setF hg id (some g)) w := by
  have hl : ∀ i q, ρ i = some q → setF ρ id (some r) i = some q := fun i q hq => by
    by_cases e : i = id
    · subst e; rw [hid] at hq; cases hq
    · rw [setF_ne _ _ e]; exact hq
  have back : ∀ i g' q, setF hg id (some g) i = some g' → setF ρ id (some r) i = some q → (i = id ∧ g' = g ∧ q = r) ∨ (i ≠ id ∧ hg i = some g' ∧ ρ i = some q) := fun i g' q h1 h2 => by
    by_cases e : i = id
    · subst e; simp at h1 h2; exact .inl ⟨rfl, h1.symm, h2.symm⟩
    · rw [setF_ne _ _ e] at h1 h2; exact .inr ⟨e, h1, h2⟩
  refine ⟨fun i g' hi => ?_, fun i j g1 g2 r1 r2 hi hj hne h1 h2 b o ho1 ho2 => ?_, fun b o v hv => ?_, h.base⟩
  · by_cases e : i = id
    · subst e
      simp at hi
      subst hi
      exact ⟨r, by simp, hb.mono (fun _ _ _ h => h) hl⟩
    · rw [setF_ne _ _ e] at hi
      obtain ⟨q, hq, hbq⟩ := h.blk i g' hi
      exact ⟨q, hl _ _ hq, hbq.mono (fun _ _ _ h => h) hl⟩
  · rcases back i g1 r1 hi h1 with ⟨e, _, e2⟩ | ⟨e, a1, a2⟩
    · rcases back j g2 r2 hj h2 with ⟨e', _, e2'⟩ | ⟨e', b1, b2⟩
      · exact hne (e.trans e'.symm)
      · subst e2
        exact (hf b o ho1).1 ⟨j, g2, r2, b1, b2, ho2⟩
    · rcases back j g2 r2 hj h2 with ⟨e', _, e2'⟩ | ⟨e', b1, b2⟩
      · subst e2'
        exact (hf b o ho2).1 ⟨i, g1, r1, a1, a2, ho1⟩
      · exact h.dis i j g1 g2 r1 r2 a1 b1 hne a2 b2 b o ho1 ho2
  · obtain ⟨h1, h2⟩ := h.rm b o v hv
    refine ⟨h1, fun i g' q hi hq ho => ?_⟩
    rcases back i g' q hi hq with ⟨_, _, e⟩ | ⟨_, a1, a2⟩
    · subst e
      have := (hf b o ho).2
      rw [this] at hv; cases hv
    · exact h2 i g' q a1 a2 ho

theorem Own.add {id : Nat} {g : Seg} {r : RE} {b o : Nat} (h : Own (setF hg id (some g)) (setF ρ id (some r)) b o) : Own hg ρ b o ∨ r.has b o := by
  obtain ⟨j, g', q, hj, hq, ho⟩ := h
  by_cases e : j = id
  · subst e; simp at hq; subst hq; exact .inr ho
  · rw [setF_ne _ _ e] at hj hq; exact .inl ⟨j, g', q, hj, hq, ho⟩

theorem Rel.upd (h : Rel rom ρ hg w) {id : Nat} {g g' : Seg} {r : RE} (hid : hg id = some g) (hr : ρ id = some r) (hb : BRel rom ρ w' g' r)
    (hc : ∀ b o, ¬ r.has b o → w'.cell? ⟨b, o, none⟩ = w.cell? ⟨b, o, none⟩ ∧ frz w' b = frz w b) : Rel rom ρ (setF hg id (some g')) w' where
  blk := fun j g2 hj => by
    by_cases e : j = id
    · subst e; simp at hj; subst hj; exact ⟨r, hr, hb⟩
    · rw [setF_ne _ _ e] at hj
      obtain ⟨q, hq, hbq⟩ := h.blk j g2 hj
      exact ⟨q, hq, hbq.world fun b o ho => hc _ _ fun hro => h.dis j id g2 g q r hj hid e hq hr _ _ ho hro⟩
  dis := fun i j g1 g2 r1 r2 hi hj hne h1 h2 b o ho1 ho2 => by
    have f : ∀ i g1, setF hg id (some g') i = some g1 → ∃ g3, hg i = some g3 := fun i g1 hi => by
      by_cases e : i = id
      · subst e; exact ⟨g, hid⟩
      · rw [setF_ne _ _ e] at hi; exact ⟨g1, hi⟩
    obtain ⟨g3, h3⟩ := f i g1 hi
    obtain ⟨g4, h4⟩ := f j g2 hj
    exact h.dis i j g3 g4 r1 r2 h3 h4 hne h1 h2 b o ho1 ho2
  rm := fun b o v hv => by
    obtain ⟨h1, h2⟩ := h.rm b o v hv
    refine ⟨by rw [(hc b o (h2 id g r hid hr)).1]; exact h1, fun i g1 q hi hq => ?_⟩
    by_cases e : i = id
    · subst e; exact h2 i g q hid hq
    · rw [setF_ne _ _ e] at hi; exact h2 i g1 q hi hq
  base := h.base

theorem Own.upd {id : Nat} {g g' : Seg} {b o : Nat} (hid : hg id = some g) (h : Own (setF hg id (some g')) ρ b o) : Own hg ρ b o := by
  obtain ⟨j, g2, q, hj, hq, ho⟩ := h
  by_cases e : j = id
  · subst e; exact ⟨j, g, q, hid, hq, ho⟩
  · rw [setF_ne _ _ e] at hj; exact ⟨j, g2, q, hj, hq, ho⟩

theorem Lnk.upd {lk : Nat → Bool} (h : Lnk ρ hg lk) {id : Nat} {g g' : Seg} (hid : hg id = some g) (hw : g'.width = g.width) : Lnk ρ (setF hg id (some g')) lk := by
  intro i r g2 wd h1 h2 h3 h4
  by_cases e : i = id
  · subst e
    simp at h3
    subst h3
    exact h i r g wd h1 h2 hid (hw ▸ h4)
  · rw [setF_ne _ _ e] at h3
    exact h i r g2 wd h1 h2 h3 h4

theorem Lnk.drop {lk : Nat → Bool} (h : Lnk ρ hg lk) (id : Nat) : Lnk ρ (setF hg id none) lk := by
  intro i r g2 wd h1 h2 h3 h4
  by_cases e : i = id
  · subst e; simp at h3
  · rw [setF_ne _ _ e] at h3; exact h i r g2 wd h1 h2 h3 h4

/-- A store: cells of own blocks are set, nothing else. -/
theorem Tr.stored {hg' : Nat → Option Seg} (hh : w'.heap.size = w.heap.size) (ho : w'.os = w.os) (ht : w'.tape = w.tape) (hp : w'.output = w.output)
    (hown : ∀ b o, Own hg' ρ b o → Own hg ρ b o)
    (h1 : ∀ b, (∀ o, ¬ Own hg ρ b o) → w'.heap[b]? = w.heap[b]?)
    (h2 : ∀ b o, ¬ Own hg ρ b o → w'.cell? ⟨b, o, none⟩ = w.cell? ⟨b, o, none⟩ ∧ frz w' b = frz w b) : Tr rom ρ hg w rom ρ hg' w' :=
  ⟨fun _ _ _ h => h, fun _ _ h => h, by omega, ho, ht, hp, fun b _ h => h1 b h, fun b o _ h => h2 b o h, fun b o h _ => hown b o h, fun _ _ _ h1 h2 _ => by rw [h2] at h1; cases h1⟩

/-- New blocks. -/
theorem Tr.grown {ρ' : RM} {hg' : Nat → Option Seg} (hgr : w.grownBy w' none) (hl : ∀ id r, ρ id = some r → ρ' id = some r)
    (hown : ∀ b o, Own hg' ρ' b o → b < w.heap.size → Own hg ρ b o) : Tr rom ρ hg w rom ρ' hg' w' where
  rl := fun _ _ _ h => h
  hl := hl
  size := hgr.size
  os := hgr.os
  tape := hgr.tape
  output := hgr.output
  u1 := fun b hb _ => hgr.block b hb (by simp)
  u2 := fun b o hb _ => ⟨World.cell?_of_block (a := ⟨b, o, none⟩) (hgr.block b hb (by simp)), frz_of_block (hgr.block b hb (by simp))⟩
  fresh := hown
  rfresh := fun _ _ _ h1 h2 _ => by rw [h2] at h1; cases h1

theorem Rel.lt (h : Rel rom ρ hg w) {b o : Nat} (ho : Own hg ρ b o) : b < w.heap.size := by
  obtain ⟨id, g, r, hid, hr, ho⟩ := ho
  obtain ⟨r', hr', hb⟩ := h.blk id g hid
  rw [hr] at hr'
  cases hr'
  rcases ho with ⟨h1, h2, h3⟩ | ho
  · obtain ⟨hs, _⟩ := hb.there (o - r.o) (by omega)
    obtain ⟨u, hu⟩ := Option.isSome_iff_exists.1 hs
    have := World.block_lt_of_cell? w _ hu
    simpa [h1] using this
  · have hx := hb.ex
    cases g with
    | deep k l =>
      obtain ⟨u, hu⟩ := Option.isSome_iff_exists.1 (hx.there b o ho).1
      have := World.block_lt_of_cell? w _ hu
      simpa using this
    | _ => exact absurd ho (hx b o)

theorem Rel.rlt (h : Rel rom ρ hg w) {b o : Nat} {v : Value} (hv : rom b o = some v) : b < w.heap.size := by
  have := World.block_lt_of_cell? w _ (h.rm b o v hv).1
  simpa using this

theorem Rel.grown (h : Rel rom ρ hg w) (hgr : w.grownBy w' none) : Rel rom ρ hg w' :=
  h.world fun b o ho => by
    have hb : b < w.heap.size := by
      rcases ho with ho | ⟨v, hv⟩
      · exact h.lt ho
      · exact h.rlt hv
    exact ⟨World.cell?_of_block (a := ⟨b, o, none⟩) (hgr.block b hb (by simp)), frz_of_block (hgr.block b hb (by simp))⟩

end

def gnum : Seg → Nat
  | .one _ => 0
  | .arr _ _ l => l.length
  | .acs l => l.length
  | .deep _ l => l.length

theorem glen_gnum (g : Seg) : glen g (gnum g) := by
  cases g with
  | one c => trivial
  | arr k n l => cases n <;> simp [glen, gnum]
  | acs l => simp [glen, gnum]
  | deep k l => simp [glen, gnum]

/-- New blocks laid side by side in the model's block b from place o on. -/
def placeN (ρ : RM) (b : Nat) : Nat → Nat → List (Seg × Bool × List Value × Nat) → RM
  | _, _, [] => ρ
  | id, o, (g, _, _, e) :: r => setF (placeN ρ b (id + 1) (o + e) r) id (some (.mkP b o e (gnum g)))

def newOf (L : List (Seg × Bool × List Value × Nat)) : List (Seg × Bool) := L.map fun x => (x.1, x.2.1)

def sumE : List (Seg × Bool × List Value × Nat) → Nat
  | [] => 0
  | (_, _, _, e) :: r => e + sumE r

def cellsOk (w : World) (b : Nat) : Nat → List (Seg × Bool × List Value × Nat) → Prop
  | _, [] => True
  | o, (g, _, cs, e) :: r => (g.flat = true ∧ cs.length ≤ e) ∧ (∀ j v, cs[j]? = some v → w.cell? ⟨b, o + j, none⟩ = some v) ∧ cellsOk w b (o + e) r

def flagsOk : List (Seg × Bool × List Value × Nat) → Prop
  | [] => True
  | (g, f, _, e) :: r => (f = true → g.width = some e ∧ r ≠ []) ∧ flagsOk r

theorem placeN_ext (ρ : RM) (b : Nat) : ∀ (L : List (Seg × Bool × List Value × Nat)) (id o : Nat), (∀ i, id ≤ i → i < id + L.length → ρ i = none) → ∀ i r, ρ i = some r → placeN ρ b id o L i = some r
  | [], _, _, _, _, _, h => h
  | (g, f, cs, e) :: L, id, o, hf, i, r, h => by
    have hne : i ≠ id := fun he => by subst he; rw [hf i (Nat.le_refl _) (by simp)] at h; cases h
    simp only [placeN]
    rw [setF_ne _ _ hne]
    exact placeN_ext ρ b L (id + 1) (o + e) (fun j h1 h2 => hf j (by omega) (by simp; omega)) i r h

theorem placeN_none (ρ : RM) (b : Nat) : ∀ (L : List (Seg × Bool × List Value × Nat)) (id o i : Nat), ρ i = none → (i < id ∨ id + L.length ≤ i) → placeN ρ b id o L i = none
  | [], _, _, _, h, _ => h
  | (g, f, cs, e) :: L, id, o, i, h, hi => by
    simp only [placeN]
    simp at hi
    rw [setF_ne _ _ (by omega)]
    exact placeN_none ρ b L (id + 1) (o + e) i h (by omega)

theorem hgN_none (hg : Nat → Option Seg) : ∀ (L : List (Seg × Bool)) (id i : Nat), hg i = none → (i < id ∨ id + L.length ≤ i) → hgN hg id L i = none
  | [], _, _, h, _ => h
  | (g, f) :: L, id, i, h, hi => by
    simp only [hgN]
    simp at hi
    rw [setF_ne _ _ (by omega)]
    exact hgN_none hg L (id + 1) i h (by omega)

theorem own_placeN {ρ : RM} {hg : Nat → Option Seg} {b : Nat} : ∀ (L : List (Seg × Bool × List Value × Nat)) (id o : Nat) {b' o' : Nat},
    Own (hgN hg id (newOf L)) (placeN ρ b id o L) b' o' → Own hg ρ b' o' ∨ (b' = b ∧ o ≤ o')
  | [], _, _, _, _, h => .inl h
  | (g, f, cs, e) :: L, id, o, b', o', h => by
    simp only [newOf, List.map_cons, hgN, placeN] at h
    rcases Own.add h with h | h
    · rcases own_placeN L (id + 1) (o + e) h with h | ⟨h1, h2⟩
      · exact .inl h
      · exact .inr ⟨h1, by omega⟩
    · obtain ⟨h1, h2, _⟩ := RE.mkP_has h
      exact .inr ⟨h1.symm, h2⟩

theorem Rel.addN {rom : Rom} {ρ : RM} {hg : Nat → Option Seg} {w : World} (h : Rel rom ρ hg w) (b : Nat) :
    ∀ (L : List (Seg × Bool × List Value × Nat)) (id o : Nat), (∀ i, id ≤ i → i < id + L.length → hg i = none ∧ ρ i = none) →
      (∀ x ∈ L, SegRel rom ρ x.1 x.2.2.1) → cellsOk w b o L →
      (∀ j, j < sumE L → (w.cell? ⟨b, o + j, none⟩).isSome = true ∧ frz w b = false) →
      (∀ o', o ≤ o' → ¬ Own hg ρ b o' ∧ rom b o' = none) →
      Rel rom (placeN ρ b id o L) (hgN hg id (newOf L)) w
  | [], _, _, _, _, _, _, _ => h
  | (g, f, cs, e) :: L, id, o, hf, hs, ⟨⟨hc0, hc1⟩, hc2, hc3⟩, ht, hn => by
    have ih := Rel.addN h b L (id + 1) (o + e) (fun i h1 h2 => hf i (by omega) (by simp; omega)) (fun x hx => hs x (by simp [hx])) hc3
      (fun j hj => by have := ht (e + j) (by simp [sumE]; omega); rwa [← Nat.add_assoc] at this) (fun o' ho' => hn o' (by omega))
    obtain ⟨f1, f2⟩ := hf id (Nat.le_refl _) (by simp)
    have hext := placeN_ext ρ b L (id + 1) (o + e) (fun i h1 h2 => (hf i (by omega) (by simp; omega)).2)
    simp only [placeN, newOf, List.map_cons, hgN]
    refine Rel.add ih (placeN_none ρ b L _ _ _ f2 (by omega)) (hgN_none hg _ _ _ f1 (by omega)) ⟨⟨cs, SegRel.mono (fun _ _ _ h => h) hext (hs (g, f, cs, e) (by simp)), hc1, hc2⟩, glen_gnum g, fun j hj => ht j (by simp [sumE] at hj ⊢; omega), XRel.mk hc0⟩ ?_
    intro b' o' hh
    obtain ⟨e1, e2, e3⟩ := RE.mkP_has hh
    subst e1
    refine ⟨fun ho => ?_, (hn o' e2).2⟩
    rcases own_placeN L (id + 1) (o + e) ho with ho | ⟨_, ho⟩
    · exact (hn o' e2).1 ho
    · omega

theorem Lnk.addN {ρ : RM} {hg : Nat → Option Seg} {lk : Nat → Bool} (h : Lnk ρ hg lk) (b : Nat) :
    ∀ (L : List (Seg × Bool × List Value × Nat)) (id o : Nat), (∀ i, id ≤ i → i < id + L.length → hg i = none ∧ ρ i = none) → flagsOk L →
      Lnk (placeN ρ b id o L) (hgN hg id (newOf L)) (lkN lk id (newOf L))
  | [], _, _, _, _ => h
  | (g, f, cs, e) :: L, id, o, hf, ⟨hfl, hfl'⟩ => by
    have ih := Lnk.addN h b L (id + 1) (o + e) (fun i h1 h2 => hf i (by omega) (by simp; omega)) hfl'
    simp only [placeN, newOf, List.map_cons, hgN, lkN]
    intro i r g2 wd h1 h2 h3 h4
    by_cases e1 : i = id
    · subst e1
      simp at h1 h2 h3
      subst h2; subst h3
      obtain ⟨hw, hne⟩ := hfl h1
      rw [hw] at h4
      cases h4
      refine ⟨rfl, ?_⟩
      rw [setF_ne _ _ (by omega)]
      cases L with
      | nil => exact absurd rfl hne
      | cons x L =>
        obtain ⟨g', f', cs', e'⟩ := x
        exact ⟨.mkP b (o + e) e' (gnum g'), by simp [placeN], rfl, rfl⟩
    · rw [setF_ne _ _ e1] at h1 h2 h3
      obtain ⟨q, r', h5, h6, h7⟩ := ih i r g2 wd h1 h2 h3 h4
      refine ⟨q, r', ?_, h6, h7⟩
      by_cases e2 : i + 1 = id
      · -- nothing lies at the new number yet
        have hn := (hf id (Nat.le_refl _) (by simp)).2
        have := placeN_none ρ b L (id + 1) (o + e) id hn (by omega)
        rw [e2, this] at h5
        cases h5
      · rw [setF_ne _ _ e2]; exact h5

theorem cells_alloc (w : World) (c : Array Value) (t : TypeId) (b : Nat) (hb : b = w.heap.size) : ∀ (j : Nat) (v : Value), c[j]? = some v → (w.alloc (.cells c t)).cell? ⟨b, j, none⟩ = some v := by
  intro j v h
  subst hb
  rw [World.cell?_alloc_new]
  exact h

end Go.Rf

set_option linter.unusedVariables false
set_option linter.unusedSimpArgs false
namespace Go.Rf
open Go

theorem wrapF_eq (k : IntKind) (n : Int) : wrapF k n = k.wrap n := by
  cases k <;> (try simp only [ifF_i8, ifF_i16, ifF_i32, ifF_i64]) <;> (try simp only [wrapF]) <;> simp only [ IntKind.wrap, IntKind.bits, IntKind.signed] <;> simp <;> (try (split <;> split <;> omega))

theorem toU_eq (k : IntKind) (x : Int) : toU k x = (BitVec.ofInt k.bits x).toNat := by
  cases k <;> simp [toU, IntKind.bits, BitVec.toNat_ofInt]

theorem andF_eq (k : IntKind) (x y : Int) : andF k x y = k.wrap ((BitVec.ofInt k.bits x) &&& (BitVec.ofInt k.bits y)).toNat := by
  rw [andF_def]
  unfold andG
  rw [wrapF_eq, toU_eq, toU_eq, BitVec.toNat_and]
  rfl

theorem orF_eq (k : IntKind) (x y : Int) : orF k x y = k.wrap ((BitVec.ofInt k.bits x) ||| (BitVec.ofInt k.bits y)).toNat := by
  rw [orF_def]
  unfold orG
  rw [wrapF_eq, toU_eq, toU_eq, BitVec.toNat_or]
  rfl

theorem xorF_eq (k : IntKind) (x y : Int) : xorF k x y = k.wrap ((BitVec.ofInt k.bits x) ^^^ (BitVec.ofInt k.bits y)).toNat := by
  rw [xorF_def]
  unfold xorG
  rw [wrapF_eq, toU_eq, toU_eq, BitVec.toNat_xor]
  rfl

theorem allU_eq (k : IntKind) : allU k = 2 ^ k.bits - 1 := by cases k <;> rfl

theorem andNotF_eq (k : IntKind) (x y : Int) : andNotF k x y = k.wrap ((BitVec.ofInt k.bits x) &&& ~~~(BitVec.ofInt k.bits y)).toNat := by
  rw [andNotF_def]
  unfold andNotG
  rw [wrapF_eq, toU_eq, toU_eq, BitVec.toNat_and, allU_eq]
  have : Nat.xor (BitVec.ofInt k.bits y).toNat (2 ^ k.bits - 1) = (~~~(BitVec.ofInt k.bits y)).toNat := by
    have e : (~~~(BitVec.ofInt k.bits y)) = (BitVec.ofInt k.bits y) ^^^ BitVec.allOnes k.bits := by
      rw [BitVec.xor_allOnes]
    rw [e, BitVec.toNat_xor, BitVec.toNat_allOnes]
    rfl
  rw [this]
  rfl

theorem bitsA_eq (k : IntKind) : bitsA k = k.bits := by cases k <;> rfl

theorem shlF_eq (k : IntKind) (x y : Int) : shlF k x y = k.wrap (x * 2 ^ (min y.toNat k.bits)) := by
  unfold shlF
  rw [wrapF_eq, bitsA_eq]
  congr 2

theorem shrF_eq (k : IntKind) (x y : Int) : shrF k x y = x.fdiv (2 ^ (min y.toNat k.bits)) := by
  unfold shrF
  rw [bitsA_eq]
  congr 1

theorem strLess_eq : ∀ x y : List UInt8, strLess x y = Op.bytesLess x y
  | [], [] => rfl
  | _ :: _, [] => rfl
  | [], _ :: _ => rfl
  | a :: x, b :: y => by simp only [strLess, Op.bytesLess, strLess_eq x y]

end Go.Rf

set_option linter.unusedVariables false
set_option linter.unusedSimpArgs false
set_option linter.unusedSectionVars false
namespace Go.Rf
open Go

/-! The types' table is the program's -/

def DOK (P : Program) (t : TypeId) : TD → Prop
  | .int k => P.underlying t = some (.int k)
  | .bool => P.underlying t = some .bool
  | .str => P.underlying t = some .string
  | .ptr e => P.underlying t = some (.pointer e)
  | .slice e => P.underlying t = some (.slice e)
  | .array n e => P.underlying t = some (.array n e)
  | .struct fs => ∃ fields, P.underlying t = some (.struct fields) ∧ fs = fields.toList.map (fun f => (f.offset, f.type)) ∧
      ∀ f ∈ fields.toList, P.cellsOf f.type ≠ 0
  | .fn => ∃ a b c, P.underlying t = some (.func a b c)
  | .other => ∃ d, P.underlying t = some d ∧ (match d with | .struct _ | .array _ _ => true | _ => false) = false

/-- Equality of plain data is what the kind says. -/
def EqOK (P : Program) (t : TypeId) (k : EK) : Prop :=
  ∀ (x y : k.T) (e : Bool) (rom : Rom) (cs ds : List Value) (w : World), k.eqv x y = some e → EK.Rel rom k x cs → EK.Rel rom k y ds →
    (Op.equal t (.agg cs.toArray) (.agg ds.toArray)).run P w = .ok e w ∧ P.eqGuardType P.depth t = false

structure TOK (P : Program) (t : TypeId) (i : TI) : Prop where
  info : ∃ p, P.info? t = some p ∧ p.size = i.size ∧ p.bytes = i.bytes ∧
    (i.zero ≠ [] → ∃ z, p.zero = some z ∧ ∀ rom ρ, LRel (SegRel rom ρ) i.zero z.cells.toList)
  desc : DOK P t i.d
  ek : ∀ k, i.ek = some k → k.size = i.size ∧ (∃ p z, P.info? t = some p ∧ p.zero = some z ∧ ∀ rom, EK.Rel rom k k.dflt z.cells.toList) ∧ (i.d.isAgg = true → EqOK P t k)

def TabOK (P : Program) (Γ : Tab) : Prop := ∀ t i, tget Γ t = some i → TOK P t i

section
variable {P : Program} {Γ : Tab} (hΓ : TabOK P Γ)
include hΓ

theorem tdesc_ok {t : Nat} {d : TD} (h : tdesc Γ t = some d) : DOK P t d := by
  unfold tdesc at h
  split at h
  · rename_i i hi; cases h; exact (hΓ t i hi).desc
  · cases h

theorem tsize_ok {t s : Nat} (h : tsize Γ t = some s) : ∃ p, P.info? t = some p ∧ p.size = s := by
  unfold tsize at h
  split at h
  · rename_i i hi; cases h; obtain ⟨p, h1, h2, _⟩ := (hΓ t i hi).info; exact ⟨p, h1, h2⟩
  · cases h

theorem run_isAgg {t : Nat} {i : TI} (h : tget Γ t = some i) (w : World) : (isAgg t).run P w = .ok i.d.isAgg w := by
  have hd := (hΓ t i h).desc
  unfold isAgg
  cases hi : i.d <;> rw [hi] at hd <;> simp only [DOK] at hd
  case struct fs => obtain ⟨f, e, _⟩ := hd; simp [run_underlying e, TD.isAgg]
  case fn => obtain ⟨a, b, c, e⟩ := hd; simp [run_underlying e, TD.isAgg]
  case other => obtain ⟨d, e, e'⟩ := hd; cases d <;> simp_all [run_underlying e, TD.isAgg]
  all_goals simp [run_underlying hd, TD.isAgg]

theorem run_sizeOf' {t : Nat} {i : TI} (h : tget Γ t = some i) (w : World) : (sizeOf t).run P w = .ok i.size w := by
  obtain ⟨p, h1, h2, _⟩ := (hΓ t i h).info
  simp [sizeOf, typeInfo, h1, h2]

theorem run_tsize {t s : Nat} (h : tsize Γ t = some s) (w : World) : (sizeOf t).run P w = .ok s w := by
  obtain ⟨p, h1, h2⟩ := tsize_ok hΓ h
  simp [sizeOf, typeInfo, h1, h2]

end

/-! Segments and cells -/

section
variable {rom : Rom} {ρ : RM}

theorem SegRel.width {g : Seg} {cs : List Value} {n : Nat} (h : SegRel rom ρ g cs) (hw : g.width = some n) : cs.length = n := by
  cases g with
  | one c => obtain ⟨v, e, _⟩ := h; simp [Seg.width] at hw; simp [e, hw]
  | arr k m l =>
    cases m with
    | none => simp [Seg.width] at hw
    | some m =>
      simp [Seg.width] at hw
      obtain ⟨h1, h2⟩ := h
      rw [LRel.length (fun x c hx => EK.Rel.length hx) h2, h1 m rfl, hw]
  | acs l => simp [Seg.width] at hw
  | deep k l => simp [Seg.width] at hw

theorem LRel.one {α : Type} {R : α → List Value → Prop} {x : α} {cs : List Value} (h : R x cs) : LRel R [x] cs := ⟨cs, [], by simp, h, rfl⟩

theorem EK.segs_rel : ∀ {k : EK} {x : k.T} {cs : List Value}, EK.Rel rom k x cs → LRel (SegRel rom ρ) (k.segs x) cs
  | .int k, x, cs, h => by simp only [EK.Rel] at h; subst h; exact LRel.one ⟨_, rfl, rfl⟩
  | .bool, x, cs, h => by simp only [EK.Rel] at h; subst h; exact LRel.one ⟨_, rfl, rfl⟩
  | .str, x, cs, h => by simp only [EK.Rel] at h; subst h; exact LRel.one ⟨_, rfl, rfl⟩
  | .sl k, l, cs, h => by obtain ⟨base, cap, e, h1, h2⟩ := h; subst e; exact LRel.one ⟨_, rfl, base, cap, rfl, h1, h2⟩
  | .arr n k, l, cs, h => LRel.one ⟨fun m hm => by cases hm; exact h.1, h.2⟩
  | .pair a b, x, cs, h => by
    obtain ⟨c, d, e, h1, h2⟩ := h
    subst e
    exact LRel.append (EK.segs_rel h1) (EK.segs_rel h2)
  | .unit, _, cs, h => by simp only [EK.Rel] at h; subst h; simp [EK.segs, LRel]

theorem EK.ofSegs_rel : ∀ {k : EK} {s : List Seg} {x : k.T} {r : List Seg} {cs : List Value}, k.ofSegs s = some (x, r) → LRel (SegRel rom ρ) s cs →
    ∃ c d, cs = c ++ d ∧ EK.Rel rom k x c ∧ LRel (SegRel rom ρ) r d
  | .int k, [], x, r, cs, h, hr => by simp [EK.ofSegs] at h
  | .int k, .arr _ _ _ :: _, x, r, cs, h, hr => by simp [EK.ofSegs] at h
  | .int k, .acs _ :: _, x, r, cs, h, hr => by simp [EK.ofSegs] at h
  | .int k, .deep _ _ :: _, x, r, cs, h, hr => by simp [EK.ofSegs] at h
  | .int k, .one a :: s, x, r, cs, h, hr => by
    cases a <;> try (simp [EK.ofSegs] at h; done)
    rename_i k' n
    simp only [EK.ofSegs] at h
    split at h
    · rename_i he
      cases h
      obtain ⟨c, d, e, ⟨v, e1, e2⟩, h2⟩ := hr
      exact ⟨c, d, e, by simp only [CRel] at e2; simp [EK.Rel, e1, e2, he], h2⟩
    · cases h
  | .bool, [], x, r, cs, h, hr => by simp [EK.ofSegs] at h
  | .bool, .arr _ _ _ :: _, x, r, cs, h, hr => by simp [EK.ofSegs] at h
  | .bool, .acs _ :: _, x, r, cs, h, hr => by simp [EK.ofSegs] at h
  | .bool, .deep _ _ :: _, x, r, cs, h, hr => by simp [EK.ofSegs] at h
  | .bool, .one a :: s, x, r, cs, h, hr => by
    cases a <;> try (simp [EK.ofSegs] at h; done)
    simp only [EK.ofSegs] at h
    cases h
    obtain ⟨c, d, e, ⟨v, e1, e2⟩, h2⟩ := hr
    exact ⟨c, d, e, by simp only [CRel] at e2; simp [EK.Rel, e1, e2], h2⟩
  | .str, [], x, r, cs, h, hr => by simp [EK.ofSegs] at h
  | .str, .arr _ _ _ :: _, x, r, cs, h, hr => by simp [EK.ofSegs] at h
  | .str, .acs _ :: _, x, r, cs, h, hr => by simp [EK.ofSegs] at h
  | .str, .deep _ _ :: _, x, r, cs, h, hr => by simp [EK.ofSegs] at h
  | .str, .one a :: s, x, r, cs, h, hr => by
    cases a <;> try (simp [EK.ofSegs] at h; done)
    simp only [EK.ofSegs] at h
    cases h
    obtain ⟨c, d, e, ⟨v, e1, e2⟩, h2⟩ := hr
    exact ⟨c, d, e, by simp only [CRel] at e2; simp [EK.Rel, e1, e2], h2⟩
  | .sl k, [], x, r, cs, h, hr => by simp [EK.ofSegs] at h
  | .sl k, .arr _ _ _ :: _, x, r, cs, h, hr => by simp [EK.ofSegs] at h
  | .sl k, .acs _ :: _, x, r, cs, h, hr => by simp [EK.ofSegs] at h
  | .sl k, .deep _ _ :: _, x, r, cs, h, hr => by simp [EK.ofSegs] at h
  | .sl k, .one a :: s, x, r, cs, h, hr => by
    cases a <;> try (simp [EK.ofSegs] at h; done)
    · simp only [EK.ofSegs] at h
      cases h
      obtain ⟨c, d, e, ⟨v, e1, e2⟩, h2⟩ := hr
      simp only [CRel] at e2
      exact ⟨c, d, e, ⟨none, 0, by simp [e1, e2], by simp, .inl rfl⟩, h2⟩
    · simp only [EK.ofSegs] at h
      split at h
      · rename_i he
        subst he
        cases h
        obtain ⟨c, d, e, ⟨v, e1, e2⟩, h2⟩ := hr
        subst e1
        exact ⟨[v], d, e, e2, h2⟩
      · cases h
  | .arr n k, [], x, r, cs, h, hr => by simp [EK.ofSegs] at h
  | .arr n k, .one _ :: _, x, r, cs, h, hr => by simp [EK.ofSegs] at h
  | .arr n k, .acs _ :: _, x, r, cs, h, hr => by simp [EK.ofSegs] at h
  | .arr n k, .deep _ _ :: _, x, r, cs, h, hr => by simp [EK.ofSegs] at h
  | .arr n k, .arr k' none l :: s, x, r, cs, h, hr => by simp [EK.ofSegs] at h
  | .arr n k, .arr k' (some n') l :: s, x, r, cs, h, hr => by
    simp only [EK.ofSegs] at h
    split at h
    · rename_i he
      subst he
      split at h
      · rename_i hn
        subst hn
        cases h
        obtain ⟨c, d, e, ⟨e1, e2⟩, h2⟩ := hr
        exact ⟨c, d, e, ⟨e1 _ rfl, e2⟩, h2⟩
      · cases h
    · cases h
  | .pair a b, s, x, r, cs, h, hr => by
    have h' : (match a.ofSegs s with
      | some (x, s') => match b.ofSegs s' with
        | some (y, s'') => some ((x, y), s'')
        | none => none
      | none => none) = some (x, r) := by rw [← h]; rfl
    split at h' <;> try (cases h'; done)
    rename_i x1 s1 h1
    split at h' <;> try (cases h'; done)
    rename_i y1 s2 h2
    cases h'
    obtain ⟨c, d, e, e1, e2⟩ := EK.ofSegs_rel h1 hr
    obtain ⟨c', d', e', e1', e2'⟩ := EK.ofSegs_rel h2 e2
    exact ⟨c ++ c', d', by simp [e, e'], ⟨c, c', rfl, e1, e1'⟩, e2'⟩
  | .unit, s, x, r, cs, h, hr => by
    have h' : some ((), s) = some (x, r) := by rw [← h]; rfl
    cases h'
    exact ⟨[], cs, rfl, rfl, hr⟩

theorem segsAt_rel : ∀ {s : List Seg} {j n : Nat} {l : List Seg} {cs : List Value}, segsAt s j n = some l → LRel (SegRel rom ρ) s cs →
    LRel (SegRel rom ρ) l ((cs.drop j).take n) ∧ j + n ≤ cs.length
  | s, 0, 0, l, cs, h, hr => by
    have : l = [] := by cases s <;> simp [segsAt] at h <;> exact h
    subst this
    simp [LRel]
  | [], j, n, l, cs, h, hr => by
    cases j <;> cases n <;> simp [segsAt] at h
    subst h
    simp [LRel]
  | g :: r, j, n, l, cs, h, hr => by
    obtain ⟨c, d, e, h1, h2⟩ := hr
    by_cases h0 : j = 0 ∧ n = 0
    · obtain ⟨e1, e2⟩ := h0
      subst e1; subst e2
      simp [segsAt] at h
      subst h
      simp [LRel]
    · have h' : (match g.width with
          | none => none
          | some w => if j = 0 then (if w ≤ n then match segsAt r 0 (n - w) with | some l => some (g :: l) | none => none else none)
            else if w ≤ j then segsAt r (j - w) n else none) = some l := by
        rw [← h]
        cases j <;> cases n <;> first | (simp at h0; done) | rfl
      split at h'
      · cases h'
      · rename_i w hw
        have hc := SegRel.width h1 hw
        split at h'
        · rename_i hj
          subst hj
          split at h'
          · rename_i hwn
            split at h'
            · rename_i l' hl'
              cases h'
              obtain ⟨i1, i2⟩ := segsAt_rel hl' h2
              subst e
              refine ⟨⟨c, d.take (n - w), ?_, h1, by simpa using i1⟩, by simp; omega⟩
              simp [List.take_append, hc]
              rw [List.take_of_length_le (by omega)]
            · cases h'
          · cases h'
        · split at h'
          · rename_i hwj
            obtain ⟨i1, i2⟩ := segsAt_rel h' h2
            subst e
            refine ⟨?_, by simp; omega⟩
            rw [List.drop_append, List.drop_of_length_le (by omega), List.nil_append, hc]
            exact i1
          · cases h'

theorem avOf_rel {agg : Bool} {l : List Seg} {v : TV} {cs : List Value} (h : avOf agg l = some v) (hr : LRel (SegRel rom ρ) l cs) :
    ∃ u, TVRel rom ρ v u ∧ (if agg then u = .agg cs.toArray else cs = [u]) := by
  unfold avOf at h
  split at h
  · rename_i ha
    cases h
    exact ⟨.agg cs.toArray, ⟨cs, rfl, hr⟩, by simp [ha]⟩
  · rename_i ha
    split at h
    · rename_i c
      cases h
      obtain ⟨c1, d1, e, ⟨u, e1, e2⟩, h2⟩ := hr
      simp only [LRel] at h2
      subst h2; subst e1
      exact ⟨u, e2, by simp [ha, e]⟩
    · cases h

end

/-- Loads. -/
theorem run_loadVar {P : Program} {Γ : Tab} (hΓ : TabOK P Γ) {t : Nat} {i : TI} (ht : tget Γ t = some i) {w : World} {b o : Nat} {cs : List Value} {u : Value}
    (hn : cs.length = i.size) (hc : ∀ j v, cs[j]? = some v → w.cell? ⟨b, o + j, none⟩ = some v)
    (hu : if i.d.isAgg then u = .agg cs.toArray else cs = [u]) : (loadVar t ⟨b, o, none⟩).run P w = .ok u w := by
  unfold loadVar
  simp only [Sem.run_bind, run_isAgg hΓ ht, Result.andThen_ok]
  have hadd : ∀ j, (⟨b, o, none⟩ : Addr).add j = ⟨b, o + j, none⟩ := fun j => by unfold Addr.add; split <;> simp_all
  cases ha : i.d.isAgg with
  | true =>
    simp only [ha, if_true] at hu
    simp only [if_true, Sem.run_bind, run_sizeOf' hΓ ht, Result.andThen_ok]
    have := run_loadCells_list (P := P) w ⟨b, o, none⟩ cs (fun j v hj => by rw [hadd]; exact hc j v hj)
    rw [← hn, this]
    simp [hu]
  | false =>
    simp only [ha, Bool.false_eq_true, if_false] at hu
    simp only [Bool.false_eq_true, if_false, run_load]
    have := hc 0 u (by simp [hu])
    simp at this
    rw [this]

end Go.Rf

set_option linter.unusedVariables false
set_option linter.unusedSimpArgs false
set_option linter.unusedSectionVars false
namespace Go.Rf
open Go

/-- What an operation owes. -/
def Does (P : Program) (o : Oper) (a : Act) (w : World) (rom : Rom) (ρ : RM) (hg : Nat → Option Seg) (lk : Nat → Bool) (nid : Nat) (r : OR) : Prop :=
  ∀ x, r.run = some x → r.chk = true → (∀ id, nid ≤ id → id < nid + (r.k x).new.length → hg id = none ∧ ρ id = none) →
    ∀ Q, o.wp P a w (fun a' w' => ∃ u rom' ρ', a' = a.put o.dst u ∧ TVRel rom' ρ' (r.k x).v u ∧
      Aft rom ρ hg w rom' ρ' (hgA hg nid (r.k x)) (lkN lk nid (r.k x).new) w' nid (r.k x).new.length) Q

section
variable {P : Program} {o : Oper} {a : Act} {w : World} {rom : Rom} {ρ : RM} {hg : Nat → Option Seg} {lk : Nat → Bool} {nid : Nat}

theorem does_run {r : OR} (h : ∀ x, r.run = some x → r.chk = true → (∀ id, nid ≤ id → id < nid + (r.k x).new.length → hg id = none ∧ ρ id = none) →
    ∃ u w' rom' ρ', ((execOp a.eval o).run P w = .ok (.value u) w' ∨ ((execOp a.eval o).run P w = .ok .skip w' ∧ u = undef)) ∧ TVRel rom' ρ' (r.k x).v u ∧
      Aft rom ρ hg w rom' ρ' (hgA hg nid (r.k x)) (lkN lk nid (r.k x).new) w' nid (r.k x).new.length) : Does P o a w rom ρ hg lk nid r := by
  intro x hx hc hf Q
  obtain ⟨u, w', rom', ρ', hrun, hv, haft⟩ := h x hx hc hf
  unfold Oper.wp
  rcases hrun with hrun | ⟨hrun, rfl⟩ <;> rw [hrun] <;> exact ⟨_, rom', ρ', rfl, hv, haft⟩

/-- A value, memory as it was. -/
theorem does_val {r : OR} {v : TV} (hk : ∀ x, r.k x = ⟨v, [], []⟩) (hR : Rel rom ρ hg w) (hL : Lnk ρ hg lk)
    (h : r.chk = true → ∃ u, (execOp a.eval o).run P w = .ok (.value u) w ∧ TVRel rom ρ v u) : Does P o a w rom ρ hg lk nid r :=
  does_run fun x hx hc hf => by
    obtain ⟨u, h1, h2⟩ := h hc
    rw [hk x]
    exact ⟨u, w, rom, ρ, .inl h1, h2, Aft.same hR hL⟩

theorem run_v {s : Sem Value} {u : Value} (h : s.run P w = .ok u w) : (do pure (Next.value (← s)) : Sem Next).run P w = .ok (.value u) w := by
  simp only [Sem.run_bind, h, Result.andThen_ok]; rfl

end

/-! Numbers, strings, truth values -/

section
variable {P : Program} {Γ : Tab} {rom : Rom} {ρ : RM} {w : World}

theorem intBin_ok {op : BinOp} {k : IntKind} {x y : Int} {c : AC} {chk : Bool} {t : TypeId} (h : intBin op k x y = some (c, chk)) (hc : chk = true) :
    ∃ z, (binOp op t (.int k x) (.int k y)).run P w = .ok z w ∧ CRel rom ρ c z := by
  subst hc
  cases op <;> simp only [intBin, cmpA] at h <;> (try (cases h; done)) <;>
    (first
      | (injection h with h; injection h with h1 h2; subst h1)
      | skip)
  case add => exact ⟨_, by simp [binOp_add, Op.intArith]; rfl, by simp [CRel, wrapF_eq]⟩
  case sub => exact ⟨_, by simp [binOp_sub, Op.intArith]; rfl, by simp [CRel, wrapF_eq]⟩
  case mul => exact ⟨_, by simp [binOp_mul, Op.intArith]; rfl, by simp [CRel, wrapF_eq]⟩
  case quo =>
    have hy : y ≠ 0 := by simpa using h2
    exact ⟨_, by simp [binOp_quo, Op.intDiv, hy]; rfl, by simp [CRel, wrapF_eq]⟩
  case rem =>
    have hy : y ≠ 0 := by simpa using h2
    exact ⟨_, by simp [binOp_rem, Op.intDiv, hy]; rfl, by simp [CRel]⟩
  case and => exact ⟨_, by simp [binOp_and, Op.intBits]; rfl, by simp [CRel, andF_eq]⟩
  case or => exact ⟨_, by simp [binOp_or, Op.intBits]; rfl, by simp [CRel, orF_eq]⟩
  case xor => exact ⟨_, by simp [binOp_xor, Op.intBits]; rfl, by simp [CRel, xorF_eq]⟩
  case andNot => exact ⟨_, by simp [binOp_andNot, Op.intBits]; rfl, by simp [CRel, andNotF_eq]⟩
  case eql => exact ⟨_, by simp [binOp_eql]; rfl, by simp [CRel]; rfl⟩
  case neq => exact ⟨_, by simp [binOp_neq]; rfl, by simp [CRel]; rfl⟩
  case lss => exact ⟨_, by simp [binOp_lss]; rfl, by simp [CRel]⟩
  case leq => exact ⟨_, by simp [binOp_leq]; rfl, by simp [CRel]⟩
  case gtr => exact ⟨_, by simp [binOp_gtr]; rfl, by simp [CRel]⟩
  case geq => exact ⟨_, by simp [binOp_geq]; rfl, by simp [CRel]⟩

theorem toList_mk (l : List UInt8) : (⟨⟨l⟩⟩ : ByteArray).toList = l := by
  have h : ∀ (n i : Nat) (r : List UInt8), n = l.length - i → ByteArray.toList.loop ⟨⟨l⟩⟩ i r = r.reverse ++ l.drop i := by
    intro n
    induction n with
    | zero =>
      intro i r hn
      unfold ByteArray.toList.loop
      have : ¬ i < (⟨⟨l⟩⟩ : ByteArray).size := by show ¬ i < l.length; omega
      rw [if_neg this, List.drop_of_length_le (by omega), List.append_nil]
    | succ n ih =>
      intro i r hn
      unfold ByteArray.toList.loop
      have hlt : i < l.length := by omega
      have : i < (⟨⟨l⟩⟩ : ByteArray).size := hlt
      rw [if_pos this, ih (i + 1) _ (by omega), List.drop_eq_getElem_cons hlt]
      simp [ByteArray.get!, getElem!_pos, hlt]
  have := h l.length 0 [] (by simp)
  simpa [ByteArray.toList] using this

theorem lbeq (x y : List UInt8) : (x == y) = decide (x = y) := by
  rw [Bool.eq_iff_iff]; simp

theorem strBin_ok {op : BinOp} {x y : List UInt8} {c : AC} {chk : Bool} {t : TypeId} (h : strBin op x y = some (c, chk)) (hc : chk = true) :
    ∃ z, (binOp op t (strV x) (strV y)).run P w = .ok z w ∧ CRel rom ρ c z := by
  subst hc
  have hs : binOp op t (strV x) (strV y) = Op.stringOp op ⟨⟨x⟩⟩ ⟨⟨y⟩⟩ := by cases op <;> rfl
  rw [hs]
  unfold Op.stringOp
  simp only [toList_mk]
  cases op <;> simp only [strBin] at h <;> (try (cases h; done)) <;> (injection h with h; injection h with h1 h2; subst h1)
  case add =>
    have hle : x.length + y.length ≤ 9223372036854775807 := by simpa using h2
    refine ⟨.string (⟨⟨x⟩⟩ ++ ⟨⟨y⟩⟩), ?_, ?_⟩
    · have e1 : (⟨⟨x⟩⟩ : ByteArray).size = x.length := rfl
      have e2 : (⟨⟨y⟩⟩ : ByteArray).size = y.length := rfl
      simp only [e1, e2]
      rw [if_neg (by simp [IntKind.max, IntKind.signed, IntKind.bits]; omega)]
      rfl
    · simp only [CRel, strV]
      congr 1
  case eql => exact ⟨_, rfl, by simp only [CRel, lbeq]⟩
  case neq => exact ⟨_, rfl, by simp only [CRel, lbeq]⟩
  case lss => exact ⟨_, rfl, by simp only [CRel, strLess_eq]⟩
  case leq => exact ⟨_, rfl, by simp only [CRel, strLess_eq, lbeq]⟩
  case gtr => exact ⟨_, rfl, by simp only [CRel, strLess_eq, lbeq]⟩
  case geq => exact ⟨_, rfl, by simp only [CRel, strLess_eq]⟩

theorem equal_succ (t : TypeId) (x y : Value) : Op.equal t x y = Op.equalIn (9999 + 1) t x y := rfl

theorem eqGuard_cell {op : BinOp} {t : TypeId} {xo yo : Operand} {x y : Value} (hx : x ≠ .nilIface) (hx' : ∀ cs, x ≠ .agg cs) : eqGuard op t xo yo x y = pure () := by
  unfold eqGuard
  cases op <;> simp only [Bool.not_true, Bool.not_false] <;> first
    | rfl
    | (cases x <;> first | (exact absurd rfl hx) | (rename_i cs; exact absurd rfl (hx' cs)) | rfl)

theorem errRel_cell {o : Bool} {e : Int} : ∀ {d : Nat} {v : Value}, ErrRel rom o e d v → ∃ t u, v = .iface t u
  | 0, v, h => by
    have h : v = cond o (.iface errT.2.1 (.agg #[])) (.iface errT.1 (.int .i64 e)) := h
    cases o
    · exact ⟨_, _, h⟩
    · exact ⟨_, _, h⟩
  | _ + 1, _, ⟨_, _, _, _, _, h, _⟩ => ⟨_, _, h⟩

theorem CRel.cell {c : AC} {v : Value} (hs : c.solid = true) (h : CRel rom ρ c v) : (c ≠ .nili → v ≠ .nilIface) ∧ (∀ cs, v ≠ .agg cs) ∧ (∀ cs, v ≠ .tuple cs) := by
  cases c <;> simp only [CRel, PRel] at h
  case ierr => obtain ⟨t, u, e⟩ := errRel_cell h; subst e; simp
  case unk => simp [AC.solid] at hs
  case ptr p => obtain ⟨r, _, e⟩ := h; subst e; simp
  case slw => obtain ⟨r, base, cap, _, e, _⟩ := h; subst e; simp
  case sl => obtain ⟨r, base, cap, _, e, _⟩ := h; subst e; simp
  case rsl => obtain ⟨base, cap, e, _⟩ := h; simp at e; subst e; simp
  case rptr => obtain ⟨b, o, cs, e, _⟩ := h; subst e; simp
  case fn => obtain ⟨l, e, _⟩ := h; subst e; simp
  case ub => simp [AC.solid] at hs
  case row => simp [AC.solid] at hs
  case prow => simp [AC.solid] at hs
  all_goals (subst h; simp [strV])

theorem CRel.oneCell {c : AC} {v : Value} (hs : c.solid = true) (h : CRel rom ρ c v) : v.oneCell' = true ∧ v.cells = #[v] := by
  obtain ⟨_, h1, h2⟩ := CRel.cell hs h
  cases v <;> first | exact ⟨rfl, rfl⟩ | (simp at h1; done) | (simp at h2; done)

theorem eq_ptr_nil {t e : TypeId} (h : P.underlying t = some (.pointer e)) (b : Option Addr) :
    (Op.equal t (.pointer none) (.pointer b)).run P w = .ok b.isNone w ∧ (Op.equal t (.pointer b) (.pointer none)).run P w = .ok b.isNone w := by
  rw [equal_succ, equal_succ]
  unfold Op.equalIn
  simp only [Sem.run_bind, run_underlying h, Result.andThen_ok]
  cases b <;> exact ⟨rfl, rfl⟩

theorem eq_sl_nil {t e : TypeId} (h : P.underlying t = some (.slice e)) (b : Option Addr) (n c : Nat) :
    (Op.equal t (.slice none 0 0) (.slice b n c)).run P w = .ok b.isNone w ∧ (Op.equal t (.slice b n c) (.slice none 0 0)).run P w = .ok b.isNone w := by
  rw [equal_succ, equal_succ]
  unfold Op.equalIn
  simp only [Sem.run_bind, run_underlying h, Result.andThen_ok]
  cases b <;> exact ⟨rfl, rfl⟩

theorem eq_fn_nil {t : TypeId} {p1 p2 p3} (h : P.underlying t = some (.func p1 p2 p3)) :
    (Op.equal t .nilFunc .nilFunc).run P w = .ok true w ∧
    ∀ f a c, (Op.equal t .nilFunc (.func f a c)).run P w = .ok false w ∧ (Op.equal t (.func f a c) .nilFunc).run P w = .ok false w := by
  simp only [equal_succ]
  unfold Op.equalIn
  simp only [Sem.run_bind, run_underlying h, Result.andThen_ok]
  exact ⟨rfl, fun f a c => ⟨rfl, rfl⟩⟩

theorem isNil_bl {rom : Rom} {ρ : RM} (b q : Bool) : CRel rom ρ (cond q (AC.bool b) (notA (.bool b))) (.bool (cond q b (!b))) := by cases q <;> exact rfl

theorem isNil_ul {rom : Rom} {ρ : RM} (p b : Bool) (h : p = false → b = false) (q : Bool) : CRel rom ρ (cond q (AC.ub p false) (notA (.ub p false))) (.bool (cond q b (!b))) := by
  cases q
  · exact ⟨_, rfl, fun hp => by rw [h hp]; rfl⟩
  · exact ⟨_, rfl, h⟩

theorem isNil_ok (hΓ : TabOK P Γ) {t : TypeId} {d : TD} (hd : tdesc Γ t = some d) {x y : AC} {u v : Value} {c : AC} (hx : CRel rom ρ x u) (hy : CRel rom ρ y v)
    (kx : kindOk d x = true) (ky : kindOk d y = true) (hl : isNilLit y = true) (hn : isNil x = some c) :
    ∃ b, (Op.equal t u v).run P w = .ok b w ∧ (Op.equal t v u).run P w = .ok b w ∧ (∀ q : Bool, CRel rom ρ (cond q c (notA c)) (.bool (cond q b (!b)))) := by
  have hok := tdesc_ok hΓ hd
  cases d <;> (try (cases x <;> simp [kindOk] at kx; done)) <;> simp only [DOK] at hok
  case ptr e =>
    have hv : v = .pointer none := by cases y <;> simp_all [kindOk, isNilLit, CRel]
    subst hv
    have q := fun b => eq_ptr_nil (w := w) hok b
    cases x <;> first | (exact absurd kx Bool.false_ne_true) | (cases hn; skip)
    case nilp => subst hx; exact ⟨true, (q none).2, (q none).1, isNil_bl _⟩
    case ptr p => obtain ⟨r, _, e⟩ := hx; subst e; exact ⟨false, (q _).2, (q _).1, isNil_bl _⟩
    case rptr => obtain ⟨_, _, _, e, _⟩ := hx; subst e; exact ⟨false, (q _).2, (q _).1, isNil_bl _⟩
  case slice e =>
    have hv : v = .slice none 0 0 := by cases y <;> simp_all [kindOk, isNilLit, CRel]
    subst hv
    have q := fun b n c => eq_sl_nil (w := w) hok b n c
    cases x <;> first | (exact absurd kx Bool.false_ne_true) | (cases hn; skip)
    case nils => subst hx; exact ⟨true, (q none 0 0).2, (q none 0 0).1, isNil_bl _⟩
    case sl id esz off len cap =>
      obtain ⟨r, base, cp, _, e, h1, h2, _⟩ := hx
      subst e
      refine ⟨base.isNone, (q _ _ _).2, (q _ _ _).1, isNil_ul _ _ fun hp => ?_⟩
      have : len ≠ 0 := by simpa using hp
      have : cp ≠ 0 := by omega
      rw [h1 this]
      rfl
    case rsl k l =>
      obtain ⟨base, cp, e, h1, h2⟩ := hx
      simp only [List.cons.injEq, and_true] at e
      subst e
      refine ⟨base.isNone, (q _ _ _).2, (q _ _ _).1, isNil_ul _ _ fun hp => ?_⟩
      rcases h2 with h2 | ⟨_, _, _, h2, _⟩
      · subst h2; simp at hp
      · subst h2; rfl
  case fn =>
    obtain ⟨p1, p2, p3, hok⟩ := hok
    have hv : v = .nilFunc := by cases y <;> simp_all [kindOk, isNilLit, CRel]
    subst hv
    have q := eq_fn_nil (w := w) hok
    cases x <;> first | (exact absurd kx Bool.false_ne_true) | (cases hn; skip)
    case nilfn => subst hx; exact ⟨true, q.1, q.1, isNil_bl _⟩
    case fn => obtain ⟨l, e, _⟩ := hx; subst e; exact ⟨false, (q.2 _ _ _).2, (q.2 _ _ _).1, isNil_bl _⟩

theorem binOp_eql_gen {t : TypeId} {u v : Value} {b : Bool} (hu : ∀ k n, u ≠ .int k n) (hs : ∀ s, u ≠ .string s) (hf : ∀ k n, u ≠ .float k n) (hcx : ∀ k n m, u ≠ .complex k n m)
    (h : (Op.equal t u v).run P w = .ok b w) : (binOp .eql t u v).run P w = .ok (.bool b) w ∧ (binOp .neq t u v).run P w = .ok (.bool (!b)) w := by
  cases u <;> first
    | (rename_i k n; exact absurd rfl (hu k n))
    | (rename_i s; exact absurd rfl (hs s))
    | (rename_i k n; exact absurd rfl (hf k n))
    | (rename_i k n m; exact absurd rfl (hcx k n m))
    | (simp [binOp, h])

theorem kind_plain {d : TD} {x : AC} {u : Value} (k : kindOk d x = true) (h : CRel rom ρ x u) : (∀ k n, u ≠ .int k n) ∧ (∀ s, u ≠ .string s) ∧ (∀ k n, u ≠ .float k n) ∧ (∀ k n m, u ≠ .complex k n m) ∧ x.solid = true := by
  cases d <;> cases x <;> simp [kindOk] at k <;> simp only [CRel, PRel] at h
  all_goals first
    | (subst h; simp [AC.solid]; done)
    | (obtain ⟨_, _, e⟩ := h; subst e; simp [AC.solid]; done)
    | (obtain ⟨_, _, _, _, e, _⟩ := h; subst e; simp [AC.solid]; done)
    | (obtain ⟨_, _, _, e, _⟩ := h; subst e; simp [AC.solid]; done)
    | (obtain ⟨_, _, e, _⟩ := h; simp at e; subst e; simp [AC.solid]; done)
    | (obtain ⟨_, e, _⟩ := h; subst e; simp [AC.solid]; done)

theorem acBin_ok (hΓ : TabOK P Γ) {op : BinOp} {t : TypeId} {x y c : AC} {chk : Bool} {u v : Value} {xo yo : Operand} (h : acBin (tdesc Γ t) op x y = some (c, chk)) (hc : chk = true)
    (hx : CRel rom ρ x u) (hy : CRel rom ρ y v) : ∃ z, (do eqGuard op t xo yo u v; binOp op t u v : Sem Value).run P w = .ok z w ∧ CRel rom ρ c z := by
  subst hc
  have plain : x.solid = true → x ≠ .nili → (do eqGuard op t xo yo u v; binOp op t u v : Sem Value) = binOp op t u v := fun hs hn => by
    obtain ⟨h1, h2, _⟩ := CRel.cell hs hx
    rw [eqGuard_cell (h1 hn) h2]
    rfl
  have nilway : ∀ d, tdesc Γ t = some d → kindOk d x = true → kindOk d y = true → nilCmp op x y = some (c, true) →
      ∃ z, (do eqGuard op t xo yo u v; binOp op t u v : Sem Value).run P w = .ok z w ∧ CRel rom ρ c z := by
    intro d hd kx ky hh
    obtain ⟨p1, p2, p3, p4, ps⟩ := kind_plain kx hx
    rw [plain ps (by intro e; subst e; cases d <;> simp [kindOk] at kx)]
    unfold nilCmp at hh
    cases op <;> simp only at hh <;> (try (cases hh; done))
    all_goals
      split at hh
      · rename_i hl
        split at hh <;> try (cases hh; done)
        rename_i c' hn
        injection hh with hh; injection hh with e1 e2
        subst e1
        obtain ⟨b, this, _, hrel⟩ := isNil_ok (w := w) hΓ hd hx hy kx ky hl hn
        have := binOp_eql_gen p1 p2 p3 p4 this
        first | exact ⟨_, this.1, hrel true⟩ | exact ⟨_, this.2, hrel false⟩
      · split at hh
        · rename_i hl
          split at hh <;> try (cases hh; done)
          rename_i c' hn
          injection hh with hh; injection hh with e1 e2
          subst e1
          obtain ⟨b, _, this, hrel⟩ := isNil_ok (w := w) hΓ hd hy hx ky kx hl hn
          have := binOp_eql_gen p1 p2 p3 p4 this
          first | exact ⟨_, this.1, hrel true⟩ | exact ⟨_, this.2, hrel false⟩
        · cases hh
  have rest : nilCmpD (tdesc Γ t) op x y = some (c, true) → ∃ z, (do eqGuard op t xo yo u v; binOp op t u v : Sem Value).run P w = .ok z w ∧ CRel rom ρ c z := by
    intro hh
    unfold nilCmpD at hh
    split at hh
    · rename_i d hd
      split at hh
      · rename_i hk
        simp only [Bool.and_eq_true] at hk
        exact nilway d hd hk.1 hk.2 hh
      · cases hh
    · cases hh
  clear nilway
  unfold acBin at h
  split at h
  · rename_i k a k' b
    rw [plain rfl (by intro e; cases e)]
    clear plain rest
    simp only [CRel] at hx hy
    subst hx; subst hy
    unfold intBinS at h
    split at h
    · injection h with h; injection h with h1 h2
      subst h1
      have hb : 0 ≤ b := by simpa using h2
      exact ⟨_, by simp [binOp_shl, Op.shift, show ¬ b < 0 by omega]; rfl, by simp [CRel, shlF_eq]⟩
    · injection h with h; injection h with h1 h2
      subst h1
      have hb : 0 ≤ b := by simpa using h2
      exact ⟨_, by simp [binOp_shr, Op.shift, show ¬ b < 0 by omega]; rfl, by simp [CRel, shrF_eq]⟩
    · split at h
      · rename_i hk
        subst hk
        exact intBin_ok h rfl
      · cases h
  · rw [plain rfl (by intro e; cases e)]
    simp only [CRel] at hx hy
    subst hx; subst hy
    exact strBin_ok h rfl
  · rw [plain rfl (by intro e; cases e)]
    clear plain rest
    simp only [CRel] at hx hy
    subst hx; subst hy
    rename_i p q
    have hq : tdesc Γ t = some .bool → (Op.equal t (.bool p) (.bool q)).run P w = .ok (p == q) w := fun hd => by
      have hok := tdesc_ok hΓ hd
      simp only [DOK] at hok
      rw [equal_succ]
      unfold Op.equalIn
      simp only [Sem.run_bind, run_underlying hok, Result.andThen_ok]
      rfl
    unfold boolBin at h
    split at h <;> (try (cases h; done))
    · rename_i hd
      injection h with h; injection h with h1 h2
      subst h1
      exact ⟨_, (binOp_eql_gen (by simp) (by simp) (by simp) (by simp) (hq hd)).1, rfl⟩
    · rename_i hd
      injection h with h; injection h with h1 h2
      subst h1
      exact ⟨_, (binOp_eql_gen (by simp) (by simp) (by simp) (by simp) (hq hd)).2, rfl⟩
  · exact rest h

theorem unA_ok {op : UnOp} {x c : AC} {u : Value} (h : unA op x = some c) (hx : CRel rom ρ x u) : ∃ z, (Op.unary op u).run P w = .ok z w ∧ CRel rom ρ c z := by
  unfold unA at h
  split at h <;> (try (cases h; done)) <;> cases h <;> simp only [CRel] at hx <;> subst hx
  · exact ⟨_, by simp [Op.unary, Op.intArith]; rfl, by simp [CRel, wrapF_eq]⟩
  · rename_i k n
    refine ⟨_, by simp [Op.unary, Op.intBits]; rfl, ?_⟩
    simp only [CRel, xorF_eq]
    congr 4
    cases k <;> first | rfl | decide
  · exact ⟨_, rfl, rfl⟩

theorem pickA_ok {v : Bool} {x y c : AC} {u z : Value} (h : pickA v x y = some c) (hx : CRel rom ρ x u) (hy : CRel rom ρ y z) : CRel rom ρ c (if v then u else z) := by
  unfold pickA at h
  split at h <;> (try (cases h; done))
  · cases h; simp only [CRel] at hx hy; subst hx; subst hy; cases v <;> rfl
  · split at h
    · rename_i hk; subst hk; cases h; simp only [CRel] at hx hy; subst hx; subst hy; cases v <;> rfl
    · cases h
  · cases h; simp only [CRel] at hx hy; subst hx; subst hy; cases v <;> rfl

end

end Go.Rf

set_option linter.unusedVariables false
set_option linter.unusedSimpArgs false
set_option linter.unusedSectionVars false
namespace Go.Rf
open Go

theorem addr_add (b o n : Nat) : (⟨b, o, none⟩ : Addr).add n = ⟨b, o + n, none⟩ := by
  unfold Addr.add; split <;> simp_all

section
variable {P : Program} {Γ : Tab} {rom : Rom} {ρ : RM} {w : World} {hg : Nat → Option Seg} {lk : Nat → Bool}

/-- A variable of several blocks: its cells, in memory from its first place on; where the next block lies. -/
theorem readSegs_ok (hR : Rel rom ρ hg w) (hL : Lnk ρ hg lk) : ∀ (n id s : Nat) (l : List Seg) (ids : List Nat), readSegs hg lk n id s = some (l, ids) →
    ∃ r cs, ρ id = some r ∧ LRel (SegRel rom ρ) l cs ∧ cs.length = s ∧ (∀ j v, cs[j]? = some v → w.cell? ⟨r.b, r.o + j, none⟩ = some v) ∧ l ≠ [] ∧
      (lk (id + l.length - 1) = true → ∃ r', ρ (id + l.length) = some r' ∧ r'.b = r.b ∧ r'.o = r.o + s)
  | 0, _, _, _, _, h => by simp [readSegs] at h
  | n + 1, id, s, l, ids, h => by
    simp only [readSegs] at h
    split at h <;> try (cases h; done)
    rename_i g hgid
    split at h <;> try (cases h; done)
    rename_i v hv
    obtain ⟨r, hr, ⟨cs, h1, h2, h3⟩, h4, h5⟩ := hR.blk id g hgid
    have hlen := SegRel.width h1 hv
    split at h
    · rename_i he
      subst he
      cases h
      refine ⟨r, cs, hr, LRel.one h1, hlen, h3, by simp, fun hk => ?_⟩
      obtain ⟨_, r', e1, e2, e3⟩ := hL id r g v (by simpa using hk) hr hgid hv
      exact ⟨r', by simpa using e1, e2, e3⟩
    · split at h <;> try (cases h; done)
      rename_i hlt
      split at h <;> try (cases h; done)
      rename_i hlk
      split at h <;> try (cases h; done)
      rename_i l' ids' hl'
      cases h
      obtain ⟨hext, r1, e1, e2, e3⟩ := hL id r g v hlk hr hgid hv
      obtain ⟨r2, cs2, i1, i2, i3, i4, i5, i6⟩ := readSegs_ok hR hL n (id + 1) (s - v) l' ids' hl'
      rw [e1] at i1
      cases i1
      refine ⟨r, cs ++ cs2, hr, ⟨cs, cs2, rfl, h1, i2⟩, by simp; omega, fun j u hj => ?_, by simp, fun hk => ?_⟩
      · by_cases hjl : j < cs.length
        · rw [List.getElem?_append_left hjl] at hj; exact h3 j u hj
        · rw [List.getElem?_append_right (by omega)] at hj
          have := i4 _ u hj
          rw [e2, e3] at this
          rw [← this]
          congr 2
          omega
      · have : l' ≠ [] := i5
        have hpos : 0 < l'.length := List.length_pos_iff.2 this
        obtain ⟨r', q1, q2, q3⟩ := i6 (by rw [← hk]; congr 1; simp)
        exact ⟨r', by rw [← q1]; congr 1; simp; omega, q2.trans e2, by rw [q3, e3]; omega⟩

theorem R2.drop {α β : Type} {R : α → β → Prop} : ∀ {x : List α} {y : List β}, R2 R x y → ∀ n, R2 R (x.drop n) (y.drop n)
  | _, _, h, 0 => by simpa using h
  | [], [], _, _ + 1 => trivial
  | _ :: _, _ :: _, h, n + 1 => by simpa using R2.drop h.2 n
  | [], _ :: _, h, _ + 1 => h.elim
  | _ :: _, [], h, _ + 1 => h.elim

theorem R2.take {α β : Type} {R : α → β → Prop} : ∀ {x : List α} {y : List β}, R2 R x y → ∀ n, R2 R (x.take n) (y.take n)
  | _, _, h, 0 => by simp only [List.take_zero]; exact trivial
  | [], [], _, _ + 1 => trivial
  | _ :: _, _ :: _, h, n + 1 => by simpa using ⟨h.1, R2.take h.2 n⟩
  | [], _ :: _, h, _ + 1 => h.elim
  | _ :: _, [], h, _ + 1 => h.elim

theorem ones_rel {rom : Rom} {ρ : RM} : ∀ {l : List AC} {cs : List Value}, R2 (CRel rom ρ) l cs → LRel (SegRel rom ρ) (l.map .one) cs
  | [], [], _ => rfl
  | _ :: _, v :: cs, h => ⟨[v], cs, rfl, ⟨v, rfl, h.1⟩, ones_rel h.2⟩
  | [], _ :: _, h => h.elim
  | _ :: _, [], h => h.elim

theorem ones_of {rom : Rom} {ρ : RM} : ∀ {s : List Seg} {l : List AC} {cs : List Value}, onesOf s = some l → LRel (SegRel rom ρ) s cs → R2 (CRel rom ρ) l cs
  | [], l, cs, h, hr => by simp [onesOf] at h; subst h; simp only [LRel] at hr; subst hr; exact trivial
  | .one c :: s, l, cs, h, ⟨c1, d1, e, ⟨v, e2, h1⟩, h2⟩ => by
    simp only [onesOf] at h
    split at h <;> try (cases h; done)
    rename_i l' hl'
    cases h
    subst e; subst e2
    exact ⟨h1, ones_of hl' h2⟩
  | .arr _ _ _ :: s, l, cs, h, hr => by simp [onesOf] at h
  | .acs _ :: s, l, cs, h, hr => by simp [onesOf] at h
  | .deep _ _ :: s, l, cs, h, hr => by simp [onesOf] at h

theorem ones_solid : ∀ {s : List Seg} {l : List AC}, onesOf s = some l → l.all AC.solid = true → solid s = true
  | [], l, h, hs => rfl
  | .one c :: s, l, h, hs => by
    simp only [onesOf] at h
    split at h <;> try (cases h; done)
    rename_i l' hl'
    cases h
    simp only [List.all_cons, Bool.and_eq_true] at hs
    simp only [solid, Bool.and_eq_true]
    exact ⟨hs.1, ones_solid hl' hs.2⟩
  | .arr _ _ _ :: s, l, h, hs => by simp [onesOf] at h
  | .acs _ :: s, l, h, hs => by simp [onesOf] at h
  | .deep _ _ :: s, l, h, hs => by simp [onesOf] at h

/-- An element of a block. -/
theorem elem_ok (hR : Rel rom ρ hg w) {id : Nat} {k : EK} {n : Option Nat} {l : List k.T} (hid : hg id = some (.arr k n l)) {i : Nat} (hi : i < l.length) :
    ∃ r c, ρ id = some r ∧ EK.Rel rom k (l.getD i k.dflt) c ∧ ∀ j v, c[j]? = some v → w.cell? ⟨r.b, r.o + i * k.size + j, none⟩ = some v := by
  obtain ⟨r, hr, ⟨cs, h1, h2, h3⟩, h4, h5⟩ := hR.blk id _ hid
  obtain ⟨p, c, q, e, hp, hc⟩ := LRel.get (fun x c hx => EK.Rel.length hx) h1.2 i hi
  refine ⟨r, c, hr, by simpa [List.getD, hi] using hc, fun j v hj => ?_⟩
  rw [Nat.add_assoc]
  refine h3 _ v ?_
  subst e
  have hlt := (List.getElem?_eq_some_iff.1 hj).1
  rw [List.append_assoc, List.getElem?_append_right (by omega), List.getElem?_append_left (by omega), ← hj]
  congr 1
  omega

/-- A row of a block of rows. -/
theorem row_head (hR : Rel rom ρ hg w) {id : Nat} {k : IntKind} {l : List (List Int)} (hid : hg id = some (.deep k l)) {i : Nat} {u : Value} (hu : CRel rom ρ (.row id i) u) :
    ∃ r base cap, ρ id = some r ∧ r.hs[i]? = some u ∧ i < l.length ∧ l[i]? = some (l.getD i []) ∧ u = .slice base (l.getD i []).length cap ∧ (l.getD i []).length ≤ cap ∧ (cap ≠ 0 → ∃ b o, base = some ⟨b, o, none⟩) ∧ DRel w k l r := by
  obtain ⟨r, e1, e2⟩ := hu
  obtain ⟨r', hr, hb⟩ := hR.blk id _ hid
  rw [e1] at hr
  cases hr
  have hx : DRel w k l r := hb.ex
  have hlt := (List.getElem?_eq_some_iff.1 e2).1
  rw [hx.len] at hlt
  have hl : l[i]? = some (l.getD i []) := by simp [List.getD, hlt]
  obtain ⟨base, cap, h1, h2, h3⟩ := hx.head i _ hl
  rw [e2] at h1
  cases h1
  exact ⟨r, base, cap, e1, e2, hlt, hl, rfl, h2, h3, hx⟩

theorem loadA_ok (hΓ : TabOK P Γ) (hR : Rel rom ρ hg w) (hL : Lnk ρ hg lk) {t : Nat} {c : AC} {u : Value} {r : OR} (h : loadA hg lk Γ t c = some r) (hu : CRel rom ρ c u) :
    ∃ v, (∀ x, r.k x = ⟨v, [], []⟩) ∧ (r.chk = true → ∃ z, (Instr.loadAt t u).run P w = .ok z w ∧ TVRel rom ρ v z) := by
  unfold loadA at h
  split at h <;> try (cases h; done)
  rename_i ti ht
  have fin : ∀ {l : List Seg} {v : TV} {cs : List Value} {b o : Nat}, avOf ti.d.isAgg l = some v → LRel (SegRel rom ρ) l cs → cs.length = ti.size →
      (∀ j v, cs[j]? = some v → w.cell? ⟨b, o + j, none⟩ = some v) → u = .pointer (some ⟨b, o, none⟩) → ∃ z, (Instr.loadAt t u).run P w = .ok z w ∧ TVRel rom ρ v z := by
    intro l v cs b o hav hl hn hc hu
    obtain ⟨z, hz, hz'⟩ := avOf_rel hav hl
    refine ⟨z, ?_, hz⟩
    subst hu
    have := run_loadVar hΓ ht (u := z) hn hc hz'
    simp [Instr.loadAt, Instr.sureAddr, this]
  split at h
  · rename_i id
    split at h <;> try (cases h; done)
    rename_i l ids hl
    split at h <;> try (cases h; done)
    rename_i v hv
    cases h
    refine ⟨v, fun _ => rfl, fun _ => ?_⟩
    obtain ⟨r, cs, h1, h2, h3, h4, _, _⟩ := readSegs_ok hR hL _ _ _ _ _ hl
    obtain ⟨r', e1, e2⟩ := hu
    rw [h1] at e1
    cases e1
    exact fin hv h2 h3 h4 (by simpa using e2)
  · rename_i id esz i j
    split at h
    · rename_i k n l hid
      split at h <;> try (cases h; done)
      rename_i s hs
      split at h <;> try (cases h; done)
      rename_i v hv
      split at h <;> try (cases h; done)
      rename_i hsz
      cases h
      refine ⟨v, fun _ => rfl, fun hc => ?_⟩
      have hi : i < l.length := by simpa [OR.rdc] using hc
      obtain ⟨r, c, h1, h2, h3⟩ := elem_ok hR hid hi
      obtain ⟨r', e1, e2⟩ := hu
      rw [h1] at e1
      cases e1
      obtain ⟨g1, g2⟩ := segsAt_rel hs (EK.segs_rel (ρ := ρ) h2)
      refine fin hv g1 (by simp; omega) (b := r.b) (o := r.o + i * k.size + j) (fun m v hm => ?_) (by rw [e2, ← hsz])
      have hm' : c[j + m]? = some v := by
        have hlt := (List.getElem?_eq_some_iff.1 hm).1
        simp at hlt
        rw [List.getElem?_take, if_pos (by omega), List.getElem?_drop] at hm
        exact hm
      rw [← h3 _ v hm']
      congr 2
      omega
    · rename_i l hid
      split at h <;> try (cases h; done)
      rename_i hle
      split at h <;> try (cases h; done)
      rename_i v hv
      cases h
      refine ⟨v, fun _ => rfl, fun _ => ?_⟩
      obtain ⟨r, hr, ⟨cs, h1, h2, h3⟩, h4, h5⟩ := hR.blk id _ hid
      obtain ⟨r', e1, e2⟩ := hu
      rw [hr] at e1
      cases e1
      have hlen := R2.length h1
      refine fin hv (ones_rel (R2.take (R2.drop h1 (i * (esz + 1) + j)) ti.size)) (by simp; omega) (b := r.b) (o := r.o + (i * (esz + 1) + j)) (fun m v hm => ?_) (by rw [e2, Nat.add_assoc])
      have hlt := (List.getElem?_eq_some_iff.1 hm).1
      simp at hlt
      rw [List.getElem?_take, if_pos (by omega), List.getElem?_drop] at hm
      rw [← h3 _ v hm]
      congr 2
      omega
    · -- a row
      rename_i k l hid
      split at h <;> try (cases h; done)
      rename_i hcond
      simp only [Bool.and_eq_true, decide_eq_true_eq, beq_iff_eq, Bool.not_eq_true'] at hcond
      obtain ⟨he0, hj0, hs1, hagg⟩ := hcond
      cases h
      refine ⟨_, fun _ => rfl, fun hc => ?_⟩
      have hi : i < l.length := by simpa [OR.rdc] using hc
      obtain ⟨r, e1, e2⟩ := hu
      obtain ⟨r', hr, hb⟩ := hR.blk id _ hid
      rw [e1] at hr
      cases hr
      have hx : DRel w k l r := hb.ex
      obtain ⟨base, cap, h1, h2, h3⟩ := hx.head i (l.getD i []) (by simp [List.getD, hi])
      have hm := hx.main i _ h1
      subst he0; subst hj0
      simp only [Nat.zero_add, Nat.mul_one, Nat.add_zero] at e2
      have := run_loadVar hΓ ht (w := w) (b := r.b) (o := r.o + i) (cs := [.slice base (l.getD i []).length cap]) (u := .slice base (l.getD i []).length cap) (by simp [hs1]) (fun j v hj => by
        cases j with
        | zero => simp at hj; subst hj; exact hm
        | succ j => simp at hj) (by rw [hagg]; rfl)
      refine ⟨_, ?_, r, e1, h1⟩
      rw [e2]
      simp [Instr.loadAt, Instr.sureAddr, this]
    · cases h
  · -- a place in a row
    rename_i id i j
    split at h <;> try (cases h; done)
    rename_i k l hid
    split at h <;> try (cases h; done)
    rename_i hcond
    simp only [Bool.and_eq_true, beq_iff_eq, Bool.not_eq_true'] at hcond
    obtain ⟨hs1, hagg⟩ := hcond
    cases h
    refine ⟨_, fun _ => rfl, fun hc => ?_⟩
    have hj : j < (l.getD i []).length := by simpa [OR.rdc] using hc
    obtain ⟨r, b, o, len, cap, e1, e2, e3⟩ := hu
    obtain ⟨r', base', cap', e1', e2', hlt, hl, _, _, _, hx⟩ := row_head (rom := rom) hR hid ⟨r, e1, e2⟩
    rw [e1] at e1'
    cases e1'
    obtain ⟨hm, _⟩ := hx.row i _ hl b o len cap e2 j ((l.getD i []).getD j 0) (by rw [List.getD_eq_getElem?_getD (l := l.getD i []), List.getElem?_eq_getElem hj]; rfl)
    have := run_loadVar hΓ ht (w := w) (b := b) (o := o + j) (cs := [.int k ((l.getD i []).getD j 0)]) (u := .int k ((l.getD i []).getD j 0)) (by simp [hs1]) (fun j v hj => by
      cases j with
      | zero => simp at hj; subst hj; exact hm
      | succ j => simp at hj) (by rw [hagg]; rfl)
    refine ⟨_, ?_, rfl⟩
    rw [e3]
    simp [Instr.loadAt, Instr.sureAddr, this]
  · rename_i k x j
    split at h <;> try (cases h; done)
    rename_i s hs
    split at h <;> try (cases h; done)
    rename_i v hv
    cases h
    refine ⟨v, fun _ => rfl, fun _ => ?_⟩
    obtain ⟨b, o, cs, e1, e2, e3⟩ := hu
    obtain ⟨g1, g2⟩ := segsAt_rel hs (EK.segs_rel (ρ := ρ) e3)
    refine fin hv g1 (by simp; omega) (b := b) (o := o + j) (fun m v hm => ?_) e1
    have hm' : cs[j + m]? = some v := by
      have hlt := (List.getElem?_eq_some_iff.1 hm).1
      simp at hlt
      rw [List.getElem?_take, if_pos (by omega), List.getElem?_drop] at hm
      exact hm
    rw [Nat.add_assoc]
    exact (hR.rm _ _ _ (e2 _ v hm')).1
  · cases h

theorem intA_ok {v : TV} {k : IntKind} {n : Int} {u : Value} (h : intA v = some (k, n)) (hv : TVRel rom ρ v u) : u = .int k n := by
  unfold intA at h
  split at h <;> cases h
  exact hv

theorem lenA_ok (hR : Rel rom ρ hg w) {c : AC} {n : Nat} {ids : List Nat} {u : Value} (h : lenA hg c = some (n, ids)) (hu : CRel rom ρ c u) :
    (∃ s, u = strV s ∧ s.length = n ∧ c = .str s) ∨ ∃ base cap, u = .slice base n cap := by
  unfold lenA at h
  split at h
  · cases h; exact .inl ⟨_, hu, rfl, rfl⟩
  · cases h; exact .inr ⟨_, _, hu⟩
  · cases h; obtain ⟨base, cap, e, _⟩ := hu; simp at e; exact .inr ⟨_, _, e⟩
  · cases h; obtain ⟨r, base, cap, _, e, _⟩ := hu; exact .inr ⟨_, _, e⟩
  · rename_i id esz
    obtain ⟨r, base, cap, hr, e, _⟩ := hu
    split at h
    · rename_i k m l hid
      cases h
      obtain ⟨r', hr', hb⟩ := hR.blk id _ hid
      rw [hr] at hr'
      cases hr'
      have := hb.len
      simp only [glen] at this
      exact .inr ⟨base, cap, by rw [e, this]⟩
    · rename_i l hid
      cases h
      obtain ⟨r', hr', hb⟩ := hR.blk id _ hid
      rw [hr] at hr'
      cases hr'
      have := hb.len
      simp only [glen] at this
      exact .inr ⟨base, cap, by rw [e, this]⟩
    · rename_i k l hid
      cases h
      obtain ⟨r', hr', hb⟩ := hR.blk id _ hid
      rw [hr] at hr'
      cases hr'
      have := hb.len
      simp only [glen] at this
      exact .inr ⟨base, cap, by rw [e, this]⟩
    · cases h
  · rename_i id i
    split at h <;> try (cases h; done)
    rename_i k l hid
    cases h
    obtain ⟨r, base, cap, _, _, _, _, e, _⟩ := row_head hR hid hu
    exact .inr ⟨base, cap, e⟩
  · cases h

theorem indexAddrA_ok (hΓ : TabOK P Γ) (hR : Rel rom ρ hg w) {t : Nat} {x : AC} {i : Int} {u : Value} {ki : IntKind} {r : OR} (h : indexAddrA hg Γ t x i = some r) (hu : CRel rom ρ x u) :
    ∃ v, (∀ x, r.k x = ⟨v, [], []⟩) ∧ (r.chk = true → ∃ z, (Instr.indexAt t u (.int ki i)).run P w = .ok z w ∧ TVRel rom ρ v z) := by
  unfold indexAddrA at h
  split at h
  · rename_i e hd
    have hok := tdesc_ok hΓ hd
    simp only [DOK] at hok
    split at h <;> try (cases h; done)
    rename_i sz hsz
    have fin : ∀ {b o len cap : Nat}, u = .slice (some ⟨b, o, none⟩) len cap → 0 ≤ i → i < len →
        (Instr.indexAt t u (.int ki i)).run P w = .ok (.pointer (some ⟨b, o + i.toNat * sz, none⟩)) w := by
      intro b o len cap hu h0 h1
      subst hu
      simp [Instr.indexAt, run_underlying hok, asIntOf, run_tsize hΓ hsz, h0, h1, addr_add]
    split at h
    · rename_i id esz
      split at h <;> try (cases h; done)
      rename_i n ids hn
      split at h <;> try (cases h; done)
      rename_i he
      cases h
      refine ⟨_, fun _ => rfl, fun hc => ?_⟩
      simp only [Bool.and_eq_true, decide_eq_true_eq] at hc
      rcases lenA_ok hR hn hu with ⟨s, _, _, e'⟩ | ⟨base', cap', e'⟩
      · cases e'
      · obtain ⟨r, base, cap, hr, e1, e2, e3, e4⟩ := hu
        have hnn : n = r.n := by rw [e1] at e'; cases e'; rfl
        subst hnn
        have : cap ≠ 0 := by omega
        rw [e2 this] at e1
        refine ⟨_, fin e1 hc.1 hc.2, r, hr, ?_⟩
        simp [he]
    · rename_i id esz off len cap
      split at h <;> try (cases h; done)
      rename_i he
      cases h
      refine ⟨_, fun _ => rfl, fun hc => ?_⟩
      simp only [OR.valc, Bool.and_eq_true, decide_eq_true_eq] at hc
      obtain ⟨r, base, c, hr, e1, e2, e3, e4⟩ := hu
      have : c ≠ 0 := by omega
      rw [e2 this] at e1
      refine ⟨_, fin e1 hc.1 hc.2, r, hr, ?_⟩
      simp [he, Nat.add_mul]
      omega
    · rename_i k l
      split at h <;> try (cases h; done)
      rename_i he
      cases h
      refine ⟨_, fun _ => rfl, fun hc => ?_⟩
      simp only [OR.valc, Bool.and_eq_true, decide_eq_true_eq] at hc
      obtain ⟨base, cap, e1, e2, e3⟩ := hu
      simp only [List.cons.injEq, and_true] at e1
      rcases e3 with e3 | ⟨b, o, ds, e4, e5, e6⟩
      · subst e3; simp at hc; omega
      · rw [e4] at e1
        have hi : i.toNat < l.length := by omega
        obtain ⟨p, c, q, e7, e8, e9⟩ := LRel.get (fun x c hx => EK.Rel.length hx) e6 i.toNat hi
        rw [he] at e8
        refine ⟨_, fin e1 hc.1 hc.2, b, o + i.toNat * sz, c, by simp, fun j v hj => ?_, by simpa [List.getD, hi] using e9⟩
        rw [Nat.add_assoc]
        refine e5 _ v ?_
        subst e7
        have hlt := (List.getElem?_eq_some_iff.1 hj).1
        rw [List.append_assoc, List.getElem?_append_right (by omega), List.getElem?_append_left (by omega), ← hj]
        congr 1
        omega
    · -- in a row
      rename_i id i0
      split at h <;> try (cases h; done)
      rename_i k l hid
      split at h <;> try (cases h; done)
      rename_i he
      cases h
      refine ⟨_, fun _ => rfl, fun hc => ?_⟩
      simp only [Bool.and_eq_true, decide_eq_true_eq] at hc
      obtain ⟨r, base, cap, e1, e2, hlt, hl, e3, e4, e5, hx⟩ := row_head hR hid hu
      have h0 : cap ≠ 0 := by omega
      obtain ⟨b, o, hb⟩ := e5 h0
      subst hb
      rw [e3] at e2
      have := fin e3 hc.1 hc.2
      rw [he, Nat.mul_one] at this
      exact ⟨_, this, r, b, o, _, _, e1, e2, rfl⟩
    · cases h
  · rename_i n e hd
    have hok := tdesc_ok hΓ hd
    simp only [DOK] at hok
    split at h <;> try (cases h; done)
    rename_i sz hsz
    split at h <;> try (cases h; done)
    rename_i id
    split at h <;> try (cases h; done)
    rename_i k m l hid
    split at h <;> try (cases h; done)
    rename_i he
    split at h <;> try (cases h; done)
    rename_i hm
    cases h
    refine ⟨_, fun _ => rfl, fun hc => ?_⟩
    simp only [OR.valc, Bool.and_eq_true, decide_eq_true_eq] at hc
    obtain ⟨r, hr, e1⟩ := hu
    subst e1
    refine ⟨.pointer (some ⟨r.b, r.o + i.toNat * sz, none⟩), ?_, r, hr, by simp⟩
    simp [Instr.indexAt, run_underlying hok, asIntOf, Instr.sureAddr, run_tsize hΓ hsz, hc.1, hc.2, addr_add]
  · cases h

theorem fieldAddrA_ok (hΓ : TabOK P Γ) (hR : Rel rom ρ hg w) (hL : Lnk ρ hg lk) {t : Nat} {x : AC} {f : Nat} {u : Value} {r : OR} (h : fieldAddrA hg lk Γ t x f = some r) (hu : CRel rom ρ x u) :
    ∃ v, (∀ x, r.k x = ⟨v, [], []⟩) ∧ (r.chk = true → ∃ z, (Instr.fieldAt t u f).run P w = .ok z w ∧ TVRel rom ρ v z) := by
  unfold fieldAddrA at h
  split at h <;> try (cases h; done)
  rename_i fs hd
  obtain ⟨fields, hok, hfs, hnz⟩ := tdesc_ok hΓ hd
  split at h <;> try (cases h; done)
  rename_i off ty hf
  subst hfs
  simp only [List.getElem?_map, Option.map_eq_some_iff] at hf
  obtain ⟨fl, hfl, hfe⟩ := hf
  have hfl' : fields[f]? = some fl := by simpa using hfl
  have hsz : P.cellsOf fl.type ≠ 0 := hnz fl (List.mem_of_getElem? hfl)
  cases hfe
  have hszr : ∃ p, P.info? fl.type = some p ∧ p.size ≠ 0 := by
    unfold Program.cellsOf at hsz
    cases hp : P.info? fl.type with
    | none => simp [hp] at hsz
    | some p => exact ⟨p, rfl, by simpa [hp] using hsz⟩
  obtain ⟨p, hp, hps⟩ := hszr
  have fin : ∀ {b o : Nat}, u = .pointer (some ⟨b, o, none⟩) → (Instr.fieldAt t u f).run P w = .ok (.pointer (some ⟨b, o + fl.offset, none⟩)) w := by
    intro b o hu
    subst hu
    simp [Instr.fieldAt, run_underlying hok, hfl', Instr.sureAddr, fieldPlace, sizeOf, typeInfo, hp, hps, addr_add]
  split at h
  · rename_i id
    obtain ⟨r0, hr0, e1⟩ := hu
    split at h
    · rename_i heq
      cases h
      refine ⟨_, fun _ => rfl, fun _ => ⟨_, fin e1, r0, hr0, ?_⟩⟩
      have heq' : fl.offset = 0 := by simp_all
      simp [heq']
    · rename_i off' heq
      split at h <;> try (cases h; done)
      rename_i l ids hl
      split at h <;> try (cases h; done)
      rename_i hlk
      cases h
      obtain ⟨r1, cs, h1, h2, h3, h4, h5, h6⟩ := readSegs_ok hR hL _ _ _ _ _ hl
      rw [hr0] at h1
      cases h1
      obtain ⟨r', g1, g2, g3⟩ := h6 hlk
      have heq' : fl.offset = off' + 1 := by simp_all
      refine ⟨_, fun _ => rfl, fun _ => ⟨_, fin e1, r', g1, ?_⟩⟩
      simp [g2, g3, heq']
  · rename_i id esz i j
    cases h
    obtain ⟨r0, hr0, e1⟩ := hu
    refine ⟨_, fun _ => rfl, fun _ => ⟨_, fin e1, r0, hr0, ?_⟩⟩
    simp [Nat.add_assoc]
  · rename_i k y j
    cases h
    obtain ⟨b, o, cs, e1, e2, e3⟩ := hu
    exact ⟨_, fun _ => rfl, fun _ => ⟨_, fin e1, b, o, cs, by rw [Nat.add_assoc], e2, e3⟩⟩
  · cases h

theorem bnd_ok {v : Option TV} {d : Nat} {n : Int} {b : Bool} (h : bnd v d = some (n, b)) :
    (v = none ∧ n = d) ∨ ∃ tv k, v = some tv ∧ intA tv = some (k, n) := by
  unfold bnd at h
  split at h
  · cases h; exact .inl ⟨rfl, rfl⟩
  · rename_i tv
    split at h
    · rename_i k m hm
      cases h; exact .inr ⟨tv, k, rfl, hm⟩
    · cases h

/-- The operands of a slice expression. -/
def ORel (rom : Rom) (ρ : RM) (x : Option TV) (u : Option Value) : Prop :=
  match x, u with
  | none, none => True
  | some a, some v => TVRel rom ρ a v
  | _, _ => False

theorem bnd_run {v : Option TV} {ov : Option Value} {d : Nat} {n : Int} {b : Bool} (h : bnd v d = some (n, b)) (ho : ORel rom ρ v ov) :
    (ov = none ∧ n = d) ∨ ∃ k, ov = some (.int k n) := by
  rcases bnd_ok h with ⟨h1, h2⟩ | ⟨tv, k, h1, h2⟩
  · subst h1
    cases ov with
    | none => exact .inl ⟨rfl, h2⟩
    | some _ => exact ho.elim
  · subst h1
    cases ov with
    | none => exact ho.elim
    | some u => exact .inr ⟨k, by rw [intA_ok h2 ho]⟩

theorem run_bound {k : IntKind} {i : Int} {y : Nat} {code : BoundsCode} (h0 : 0 ≤ i) (h1 : i ≤ y) : (Instr.sliceBound (.int k i) y code).run P w = .ok i.toNat w := by
  simp [Instr.sliceBound, asIntOf, h0, h1]

theorem run_bounds2 {isS : Bool} {len cap : Nat} {lo hi : Option TV} {lv hv : Option Value} {a b : Int} {q1 q2 : Bool}
    (hlo : bnd lo 0 = some (a, q1)) (hhi : bnd hi len = some (b, q2)) (rlo : ORel rom ρ lo lv) (rhi : ORel rom ρ hi hv) (h1 : 0 ≤ a) (h2 : a ≤ b) (h3 : b ≤ cap) :
    (Instr.sliceBounds isS len cap lv hv none).run P w = .ok (a.toNat, b.toNat, cap) w := by
  have hb0 : 0 ≤ b := by omega
  have hab : a ≤ (b.toNat : Int) := by omega
  rcases bnd_run hlo rlo with ⟨e1, e2⟩ | ⟨k1, e1⟩ <;> rcases bnd_run hhi rhi with ⟨e3, e4⟩ | ⟨k2, e3⟩ <;> subst e1 <;> subst e3
  · subst e2; subst e4; simp [Instr.sliceBounds]
  · subst e2; simp [Instr.sliceBounds, run_bound hb0 h3]
  · subst e4; simp [Instr.sliceBounds, run_bound h1 h2]
  · simp [Instr.sliceBounds, run_bound hb0 h3, run_bound h1 hab]

theorem run_bounds3 {len cap : Nat} {lo hi : Option TV} {lv hv : Option Value} {mk : IntKind} {a b m : Int} {q1 q2 : Bool}
    (hlo : bnd lo 0 = some (a, q1)) (hhi : bnd hi len = some (b, q2)) (hhi' : hi ≠ none) (rlo : ORel rom ρ lo lv) (rhi : ORel rom ρ hi hv) (h1 : 0 ≤ a) (h2 : a ≤ b) (h3 : b ≤ m) (h4 : m ≤ cap) :
    (Instr.sliceBounds true len cap lv hv (some (.int mk m))).run P w = .ok (a.toNat, b.toNat, m.toNat) w := by
  have hb0 : 0 ≤ b := by omega
  have hm0 : 0 ≤ m := by omega
  have hab : a ≤ (b.toNat : Int) := by omega
  have hbm : b ≤ (m.toNat : Int) := by omega
  rcases bnd_run hhi rhi with ⟨e3, e4⟩ | ⟨k2, e3⟩
  · rcases bnd_ok hhi with ⟨h, _⟩ | ⟨tv, k, h, _⟩
    · exact absurd h hhi'
    · subst h; subst e3; exact rhi.elim
  · subst e3
    rcases bnd_run hlo rlo with ⟨e1, e2⟩ | ⟨k1, e1⟩ <;> subst e1
    · subst e2; simp [Instr.sliceBounds, run_bound hm0 h4, run_bound hb0 hbm]
    · simp [Instr.sliceBounds, run_bound hm0 h4, run_bound hb0 hbm, run_bound h1 hab]

end

end Go.Rf

set_option linter.unusedVariables false
set_option linter.unusedSimpArgs false
set_option linter.unusedSectionVars false
namespace Go.Rf
open Go

section
variable {P : Program} {Γ : Tab} {rom : Rom} {ρ : RM} {w : World} {hg : Nat → Option Seg} {lk : Nat → Bool}

/-- A slice of a slice, as the model has it. -/
theorem run_slice2 {t e : TypeId} (hok : P.underlying t = some (.slice e)) {sz : Nat} (hsz : (sizeOf e).run P w = .ok sz w) {lo hi : Option TV} {lv hv : Option Value} {a b : Int} {q1 q2 : Bool} {base : Option Addr} {len cap : Nat}
    (hlo : bnd lo 0 = some (a, q1)) (hhi : bnd hi len = some (b, q2)) (rlo : ORel rom ρ lo lv) (rhi : ORel rom ρ hi hv) (h1 : 0 ≤ a) (h2 : a ≤ b) (h3 : b ≤ cap) :
    (Instr.sliceAt t (.slice base len cap) lv hv none).run P w = .ok (.slice (if cap = a.toNat then base else base.map (·.add (a.toNat * sz))) (b.toNat - a.toNat) (cap - a.toNat)) w := by
  have hb := run_bounds2 (P := P) (w := w) (isS := true) hlo hhi rlo rhi h1 h2 h3
  simp [Instr.sliceAt, run_underlying hok, Instr.slice, hb, hsz]

theorem run_slice3 {t e : TypeId} (hok : P.underlying t = some (.slice e)) {sz : Nat} (hsz : (sizeOf e).run P w = .ok sz w) {lo hi : Option TV} {lv hv : Option Value} {a b m : Int} {mk : IntKind} {q1 q2 : Bool} {base : Option Addr} {len cap : Nat}
    (hlo : bnd lo 0 = some (a, q1)) (hhi : bnd hi len = some (b, q2)) (hhi' : hi ≠ none) (rlo : ORel rom ρ lo lv) (rhi : ORel rom ρ hi hv) (h1 : 0 ≤ a) (h2 : a ≤ b) (h3 : b ≤ m) (h4 : m ≤ cap) :
    (Instr.sliceAt t (.slice base len cap) lv hv (some (.int mk m))).run P w = .ok (.slice (if m.toNat = a.toNat then base else base.map (·.add (a.toNat * sz))) (b.toNat - a.toNat) (m.toNat - a.toNat)) w := by
  have hb := run_bounds3 (P := P) (w := w) (mk := mk) hlo hhi hhi' rlo rhi h1 h2 h3 h4
  simp [Instr.sliceAt, run_underlying hok, Instr.slice, hb, hsz]

theorem ORel.none {mv : Option Value} (hr : ORel rom ρ none mv) : mv = none := by
  cases mv with
  | none => rfl
  | some _ => exact hr.elim

theorem sliceA_ok (hΓ : TabOK P Γ) (hR : Rel rom ρ hg w) {t : Nat} {x : AC} {u : Value} {lo hi mx : Option TV} {lv hv mv : Option Value} {r : OR} (h : sliceA hg Γ t x lo hi mx = some r) (hu : CRel rom ρ x u)
    (rlo : ORel rom ρ lo lv) (rhi : ORel rom ρ hi hv) (rmx : ORel rom ρ mx mv) :
    ∃ v, (∀ x, r.k x = ⟨v, [], []⟩) ∧ (r.chk = true → ∃ z, (Instr.sliceAt t u lv hv mv).run P w = .ok z w ∧ TVRel rom ρ v z) := by
  have le_of : ∀ (r : RE) (off c a esz : Nat), (off + c) * esz ≤ r.ext → a ≤ c → (a + off + (c - a)) * esz ≤ r.ext := fun r off c a esz h1 h2 => by
    rw [show a + off + (c - a) = off + c by omega]; exact h1
  unfold sliceA at h
  split at h
  · -- a string
    rename_i hd
    have hok := tdesc_ok hΓ hd
    simp only [DOK] at hok
    split at h <;> try (cases h; done)
    rename_i s
    have hmv := ORel.none rmx
    subst hmv
    split at h <;> try (cases h; done)
    rename_i a q1 b q2 h1 h2
    cases h
    refine ⟨_, fun _ => rfl, fun hc => ?_⟩
    simp only [OR.valc, Bool.and_eq_true, decide_eq_true_eq] at hc
    obtain ⟨⟨c1, c2⟩, c3⟩ := hc
    simp only [CRel] at hu
    subst hu
    have hb := run_bounds2 (P := P) (w := w) (isS := false) (len := s.length) (cap := s.length) h1 h2 rlo rhi c1 c2 c3
    refine ⟨.string ((⟨⟨s⟩⟩ : ByteArray).extract a.toNat b.toNat), ?_, ?_⟩
    · have hsz : (⟨⟨s⟩⟩ : ByteArray).size = s.length := rfl
      simp [Instr.sliceAt, run_underlying hok, Instr.slice, strV, hsz, hb]
    · show CRel rom ρ (.str _) _
      simp only [CRel, strV]
      congr 1
      apply ByteArray.ext
      apply Array.ext'
      simp [ByteArray.data_extract, List.extract_eq_take_drop]
  · rename_i e hd
    have hok := tdesc_ok hΓ hd
    simp only [DOK] at hok
    split at h <;> try (cases h; done)
    rename_i sz hsz
    have hszr := run_tsize hΓ hsz w
    split at h
    · -- nil
      split at h <;> try (cases h; done)
      rename_i a q1 b q2 h1 h2
      have hmv := ORel.none rmx
      subst hmv
      cases h
      refine ⟨_, fun _ => rfl, fun hc => ?_⟩
      simp only [OR.valc, Bool.and_eq_true, decide_eq_true_eq] at hc
      obtain ⟨c1, c2⟩ := hc
      subst c1; subst c2
      simp only [CRel] at hu
      subst hu
      exact ⟨_, run_slice2 hok hszr h1 h2 rlo rhi (by omega) (by omega) (by omega), by simp [TVRel, AVRel, CRel]⟩
    · -- by its content
      rename_i k l
      split at h <;> try (cases h; done)
      rename_i a q1 b q2 h1 h2
      split at h <;> try (cases h; done)
      rename_i hks
      obtain ⟨base, cap, e1, e2, e3⟩ := hu
      simp only [List.cons.injEq, and_true] at e1
      subst e1
      have fin : ∀ C : Nat, 0 ≤ a → a ≤ b → b ≤ C → b ≤ l.length → TVRel rom ρ (one (.rsl k ((l.drop a.toNat).take (b.toNat - a.toNat)))) (.slice (if C = a.toNat then base else base.map (·.add (a.toNat * sz))) (b.toNat - a.toNat) (C - a.toNat)) := by
        intro C c1 c2 c4 c3
        have hlen : ((l.drop a.toNat).take (b.toNat - a.toNat)).length = b.toNat - a.toNat := by simp; omega
        refine ⟨_, _, by rw [hlen], by rw [hlen]; omega, ?_⟩
        by_cases he : b.toNat - a.toNat = 0
        · exact .inl (by rw [← List.length_eq_zero_iff, hlen]; exact he)
        · rcases e3 with e3 | ⟨b', o, ds, e4, e5, e6⟩
          · subst e3; simp at c3; omega
          · have hne : C ≠ a.toNat := by omega
            have hsz' : ∀ x c, EK.Rel rom k x c → c.length = k.size := fun x c hx => EK.Rel.length hx
            have hdl := LRel.length hsz' e6
            obtain ⟨_, g2⟩ := LRel.take_drop hsz' e6 a.toNat (by omega)
            obtain ⟨g3, _⟩ := LRel.take_drop hsz' g2 (b.toNat - a.toNat) (by simp; omega)
            refine .inr ⟨b', o + a.toNat * sz, (ds.drop (a.toNat * k.size)).take ((b.toNat - a.toNat) * k.size), by simp [hne, e4, addr_add], fun j v hj => ?_, g3⟩
            rw [List.getElem?_take] at hj
            split at hj <;> try (cases hj; done)
            rw [List.getElem?_drop] at hj
            rw [Nat.add_assoc, ← hks]
            exact e5 _ v hj
      split at h
      · have hmv := ORel.none rmx
        subst hmv
        cases h
        refine ⟨_, fun _ => rfl, fun hc => ?_⟩
        simp only [OR.valc, Bool.and_eq_true, decide_eq_true_eq] at hc
        obtain ⟨⟨c1, c2⟩, c3⟩ := hc
        exact ⟨_, run_slice2 hok hszr h1 h2 rlo rhi c1 c2 (by omega), fin cap c1 c2 (by omega) c3⟩
      · rename_i mvv
        split at h <;> try (cases h; done)
        rename_i mk m tvh hm
        cases h
        refine ⟨_, fun _ => rfl, fun hc => ?_⟩
        simp only [OR.valc, Bool.and_eq_true, decide_eq_true_eq] at hc
        obtain ⟨⟨⟨c1, c2⟩, c3⟩, c4⟩ := hc
        cases mv with
        | none => exact rmx.elim
        | some mv =>
          have hmv := intA_ok hm rmx
          subst hmv
          exact ⟨_, run_slice3 hok hszr h1 h2 (by simp) rlo rhi c1 c2 c3 (by omega), fin m.toNat c1 c2 (by omega) (by omega)⟩
    · -- a whole block
      rename_i id esz
      split at h <;> try (cases h; done)
      rename_i n ids hn
      split at h <;> try (cases h; done)
      rename_i a q1 b q2 h1 h2
      split at h <;> try (cases h; done)
      rename_i hes
      rcases lenA_ok hR hn hu with ⟨s, _, _, e'⟩ | ⟨base', cap', e'⟩
      · cases e'
      obtain ⟨r0, base, cap, hr, e1, e2, e3, e4⟩ := hu
      have hnn : n = r0.n := by rw [e1] at e'; cases e'; rfl
      subst hnn
      subst e1
      split at h
      · have hmv := ORel.none rmx
        subst hmv
        cases h
        refine ⟨_, fun _ => rfl, fun hc => ?_⟩
        simp only [Bool.and_eq_true, decide_eq_true_eq] at hc
        obtain ⟨⟨c1, c2⟩, c3⟩ := hc
        refine ⟨_, run_slice2 hok hszr h1 h2 rlo rhi c1 c2 (by omega), r0, _, _, hr, rfl, fun hne => ?_, by omega, ?_, by simp⟩
        · rw [if_neg (by omega), e2 (by omega), hes]; simp [addr_add]
        · rw [show a.toNat + (cap - a.toNat) = cap by omega]; exact e4
      · rename_i mvv
        split at h <;> try (cases h; done)
        rename_i mk m tvh hm
        cases h
        refine ⟨_, fun _ => rfl, fun hc => ?_⟩
        simp only [Bool.and_eq_true, decide_eq_true_eq] at hc
        obtain ⟨⟨⟨c1, c2⟩, c3⟩, c4⟩ := hc
        cases mv with
        | none => exact rmx.elim
        | some mv =>
          have hmv := intA_ok hm rmx
          subst hmv
          refine ⟨_, run_slice3 hok hszr h1 h2 (by simp) rlo rhi c1 c2 c3 (by omega), r0, _, _, hr, rfl, fun hne => ?_, by omega, ?_, by simp⟩
          · rw [if_neg (by omega), e2 (by omega), hes]; simp [addr_add]
          · refine Nat.le_trans (Nat.mul_le_mul_right _ ?_) e4; omega
    · -- a part of a block
      rename_i id esz off n cp
      split at h <;> try (cases h; done)
      rename_i a q1 b q2 h1 h2
      split at h <;> try (cases h; done)
      rename_i hes
      obtain ⟨r0, base, cap, hr, e1, e2, e3, e4, e5⟩ := hu
      subst e1
      split at h
      · have hmv := ORel.none rmx
        subst hmv
        cases h
        refine ⟨_, fun _ => rfl, fun hc => ?_⟩
        simp only [OR.valc, Bool.and_eq_true, decide_eq_true_eq] at hc
        obtain ⟨⟨c1, c2⟩, c3⟩ := hc
        refine ⟨_, run_slice2 hok hszr h1 h2 rlo rhi c1 c2 (by omega), r0, _, _, hr, rfl, fun hne => ?_, by omega, ?_, ?_⟩
        · rw [if_neg (by omega), e2 (by omega), hes]; simp [addr_add, Nat.add_mul]; omega
        · exact le_of r0 off cap a.toNat esz e4 (by omega)
        · intro n' hn'
          cases cp with
          | none => simp at hn'
          | some c => simp at hn'; rw [← hn', e5 c rfl]
      · rename_i mvv
        split at h <;> try (cases h; done)
        rename_i mk m tvh hm
        cases h
        refine ⟨_, fun _ => rfl, fun hc => ?_⟩
        simp only [OR.valc, Bool.and_eq_true, decide_eq_true_eq] at hc
        obtain ⟨⟨⟨c1, c2⟩, c3⟩, c4⟩ := hc
        cases mv with
        | none => exact rmx.elim
        | some mv =>
          have hmv := intA_ok hm rmx
          subst hmv
          refine ⟨_, run_slice3 hok hszr h1 h2 (by simp) rlo rhi c1 c2 c3 (by omega), r0, _, _, hr, rfl, fun hne => ?_, by omega, ?_, by simp⟩
          · rw [if_neg (by omega), e2 (by omega), hes]; simp [addr_add, Nat.add_mul]; omega
          · refine Nat.le_trans (Nat.mul_le_mul_right _ ?_) e4; omega
    · cases h
  · rename_i n e hd
    have hok := tdesc_ok hΓ hd
    simp only [DOK] at hok
    split at h <;> try (cases h; done)
    rename_i sz hsz
    have hszr := run_tsize hΓ hsz w
    split at h <;> try (cases h; done)
    rename_i id
    split at h <;> try (cases h; done)
    rename_i k m l hid
    split at h <;> try (cases h; done)
    rename_i hks
    split at h <;> try (cases h; done)
    rename_i hmn
    split at h <;> try (cases h; done)
    rename_i a q1 b q2 h1 h2
    have hmv := ORel.none rmx
    subst hmv
    cases h
    refine ⟨_, fun _ => rfl, fun hc => ?_⟩
    simp only [OR.valc, Bool.and_eq_true, decide_eq_true_eq] at hc
    obtain ⟨⟨c1, c2⟩, c3⟩ := hc
    obtain ⟨r0, hr, e1⟩ := hu
    obtain ⟨r1, hr1, ⟨cs, g1, g2, g3⟩, g4, g5⟩ := hR.blk id _ hid
    rw [hr] at hr1
    cases hr1
    have hext : n * sz ≤ r0.ext := by
      have := SegRel.width g1 (n := m * k.size) rfl
      rw [hmn, hks] at this
      omega
    have hb := run_bounds2 (P := P) (w := w) (isS := false) (len := n) (cap := n) h1 h2 rlo rhi c1 c2 c3
    subst e1
    refine ⟨.slice (some (if n = a.toNat then ⟨r0.b, r0.o, none⟩ else ⟨r0.b, r0.o + a.toNat * sz, none⟩)) (b.toNat - a.toNat) (n - a.toNat), ?_, r0, _, _, hr, rfl, fun hne => ?_, by omega, ?_, ?_⟩
    · simp [Instr.sliceAt, run_underlying hok, Instr.sureAddr, hb, hszr, addr_add]
    · rw [if_neg (by omega)]
    · rw [show a.toNat + (n - a.toNat) = n by omega]; exact hext
    · intro n' hn'; simp at hn'; exact hn'
  · cases h

theorem run_part {t : Nat} (hΓ : TabOK P Γ) {i : TI} (ht : tget Γ t = some i) {s l : List Seg} {v : TV} {off : Nat} {cs : List Value} (hs : segsAt s off i.size = some l) (hv : avOf i.d.isAgg l = some v)
    (hr : LRel (SegRel rom ρ) s cs) : ∃ z, (part t cs.toArray off).run P w = .ok z w ∧ TVRel rom ρ v z := by
  obtain ⟨g1, g2⟩ := segsAt_rel hs hr
  obtain ⟨z, hz, hz'⟩ := avOf_rel hv g1
  refine ⟨z, ?_, hz⟩
  unfold part
  simp only [Sem.run_bind, run_isAgg hΓ ht, Result.andThen_ok]
  cases ha : i.d.isAgg with
  | true =>
    simp only [ha, if_true] at hz'
    simp only [if_true, Sem.run_bind, run_sizeOf' hΓ ht, Result.andThen_ok, Sem.run_pure, hz']
    congr 2
    apply Array.ext'
    simp [List.extract_eq_take_drop]
  | false =>
    simp only [ha, Bool.false_eq_true, if_false] at hz'
    have : cs[off]? = some z := by
      have h0 : ((cs.drop off).take i.size)[0]? = some z := by rw [hz']; rfl
      rw [List.getElem?_take] at h0
      split at h0 <;> try (cases h0; done)
      simpa using h0
    simp [this]

theorem fieldA_ok (hΓ : TabOK P Γ) {t : Nat} {x v : TV} {f : Nat} {u : Value} (h : fieldA Γ t x f = some v) (hu : TVRel rom ρ x u) :
    ∃ z, (Instr.field t u f).run P w = .ok z w ∧ TVRel rom ρ v z := by
  unfold fieldA at h
  split at h <;> try (cases h; done)
  rename_i fs s hd
  obtain ⟨fields, hok, hfs, hnz⟩ := tdesc_ok hΓ hd
  split at h <;> try (cases h; done)
  rename_i off ty hf
  subst hfs
  simp only [List.getElem?_map, Option.map_eq_some_iff] at hf
  obtain ⟨fl, hfl, hfe⟩ := hf
  have hfl' : fields[f]? = some fl := by simpa using hfl
  cases hfe
  split at h <;> try (cases h; done)
  rename_i te hte
  split at h <;> try (cases h; done)
  rename_i l hl
  obtain ⟨cs, e, hcs⟩ := hu
  subst e
  obtain ⟨z, hz, hz'⟩ := run_part (P := P) (w := w) hΓ hte hl h hcs
  exact ⟨z, by simp [Instr.field, run_underlying hok, hfl', asAgg, hz], hz'⟩

theorem indexA_ok (hΓ : TabOK P Γ) {t : Nat} {x : TV} {i : Int} {ki : IntKind} {u : Value} {r : OR} (h : indexA Γ t x i = some r) (hu : TVRel rom ρ x u) :
    ∃ v, (∀ x, r.k x = ⟨v, [], []⟩) ∧ (r.chk = true → ∃ z, (Instr.index t u (.int ki i)).run P w = .ok z w ∧ TVRel rom ρ v z) := by
  unfold indexA at h
  split at h
  · rename_i s hd
    have hok := tdesc_ok hΓ hd
    simp only [DOK] at hok
    cases h
    refine ⟨_, fun _ => rfl, fun hc => ?_⟩
    simp only [OR.valc, Bool.and_eq_true, decide_eq_true_eq] at hc
    simp only [TVRel, AVRel, CRel] at hu
    subst hu
    have hlt : i.toNat < s.length := by omega
    refine ⟨.int .u8 (s[i.toNat]).toNat, ?_, by simp [TVRel, AVRel, CRel, List.getD, hlt]⟩
    have hg : (⟨⟨s⟩⟩ : ByteArray)[i.toNat]? = some (s[i.toNat]) := by
      rw [getElem?_pos (⟨⟨s⟩⟩ : ByteArray) i.toNat (by exact hlt)]
      rfl
    simp [Instr.index, asIntOf, run_underlying hok, strV, hc.1, hg]
  · rename_i n e k m l hd
    have hok := tdesc_ok hΓ hd
    simp only [DOK] at hok
    split at h <;> try (cases h; done)
    rename_i hmn
    split at h <;> try (cases h; done)
    rename_i te hte
    split at h <;> try (cases h; done)
    rename_i hks
    split at h <;> try (cases h; done)
    rename_i v hv
    cases h
    refine ⟨v, fun _ => rfl, fun hc => ?_⟩
    simp only [OR.valc, Bool.and_eq_true, decide_eq_true_eq] at hc
    obtain ⟨cs, e1, hcs⟩ := hu
    subst e1
    obtain ⟨c, d, e2, ⟨g1, g2⟩, g3⟩ := hcs
    simp only [LRel] at g3
    subst g3
    simp at e2
    subst e2
    have hlen := g1 m rfl
    have hi : i.toNat < l.length := by omega
    obtain ⟨p, c, q, e7, e8, e9⟩ := LRel.get (fun x c hx => EK.Rel.length hx) g2 i.toNat hi
    have hsl := EK.segs_rel (ρ := ρ) e9
    obtain ⟨z, hz, hz'⟩ := avOf_rel (cs := c) hv (by simpa [List.getD, hi] using hsl)
    have hcl := EK.Rel.length e9
    refine ⟨z, ?_, hz⟩
    have hp : (part e cs.toArray (i.toNat * te.size)).run P w = .ok z w := by
      unfold part
      simp only [Sem.run_bind, run_isAgg hΓ hte, Result.andThen_ok]
      cases ha : te.d.isAgg with
      | true =>
        simp only [ha, if_true] at hz'
        simp only [if_true, Sem.run_bind, run_sizeOf' hΓ hte, Result.andThen_ok, Sem.run_pure, hz']
        congr 2
        apply Array.ext'
        subst e7
        simp [List.extract_eq_take_drop, List.append_assoc, List.drop_append, List.take_append]
        rw [hks, ← e8]
        simp [hcl, hks]
        rw [List.take_of_length_le (by omega)]
      | false =>
        simp only [ha, Bool.false_eq_true, if_false] at hz'
        have : cs[i.toNat * te.size]? = some z := by
          subst e7
          rw [hks, ← e8, List.append_assoc, List.getElem?_append_right (by omega), List.getElem?_append_left (by rw [hz']; simp)]
          simp [hz']
        simp [this]
    simp [Instr.index, asIntOf, run_underlying hok, hc.1, hc.2, run_sizeOf' hΓ hte, hp]
  · cases h

end
end Go.Rf

set_option linter.unusedVariables false
set_option linter.unusedSimpArgs false
set_option linter.unusedSectionVars false
namespace Go.Rf
open Go

section
variable {P : Program} {Γ : Tab} {rom : Rom} {ρ : RM} {w : World} {hg : Nat → Option Seg} {lk : Nat → Bool}

/-! Cells of known kinds are single cells -/

theorem LRel.all {α : Type} {R : α → List Value → Prop} {p : Value → Prop} (h : ∀ x c, R x c → ∀ v ∈ c, p v) : ∀ {xs : List α} {cs : List Value}, LRel R xs cs → ∀ v ∈ cs, p v
  | [], cs, hc, v, hv => by simp only [LRel] at hc; subst hc; cases hv
  | x :: xs, cs, ⟨c, d, e, h1, h2⟩, v, hv => by
    subst e
    rcases List.mem_append.1 hv with hv | hv
    · exact h _ _ h1 v hv
    · exact LRel.all h h2 v hv

theorem EK.Rel.one : ∀ {k : EK} {x : k.T} {cs : List Value}, EK.Rel rom k x cs → ∀ v ∈ cs, v.oneCell' = true
  | .int _, _, cs, h, v, hv => by simp only [EK.Rel] at h; subst h; simp at hv; subst hv; rfl
  | .bool, _, cs, h, v, hv => by simp only [EK.Rel] at h; subst h; simp at hv; subst hv; rfl
  | .str, _, cs, h, v, hv => by simp only [EK.Rel] at h; subst h; simp at hv; subst hv; rfl
  | .sl _, _, cs, h, v, hv => by obtain ⟨_, _, e, _⟩ := h; subst e; simp at hv; subst hv; rfl
  | .arr n k, l, cs, h, v, hv => LRel.all (fun x c hx => EK.Rel.one (k := k) hx) h.2 v hv
  | .pair a b, x, cs, h, v, hv => by
    obtain ⟨c, d, e, h1, h2⟩ := h
    subst e
    rcases List.mem_append.1 hv with hv | hv
    · exact EK.Rel.one h1 v hv
    · exact EK.Rel.one h2 v hv
  | .unit, _, cs, h, v, hv => by simp only [EK.Rel] at h; subst h; cases hv

theorem R2.all {l : List AC} {cs : List Value} (hs : l.all AC.solid = true) (h : R2 (CRel rom ρ) l cs) : ∀ v ∈ cs, v.oneCell' = true := by
  intro v hv
  obtain ⟨i, hi, e⟩ := List.mem_iff_getElem.1 hv
  have hlen := R2.length h
  obtain ⟨b, hb, hr⟩ := R2.get h i (l[i]'(by omega)) (by simp)
  have : b = v := by rw [← e]; rw [List.getElem?_eq_getElem hi] at hb; cases hb; rfl
  subst this
  exact (CRel.oneCell (List.all_eq_true.1 hs _ (List.getElem_mem _)) hr).1

theorem solid_one : ∀ {s : List Seg} {cs : List Value}, solid s = true → LRel (SegRel rom ρ) s cs → ∀ v ∈ cs, v.oneCell' = true
  | [], cs, _, h, v, hv => by simp only [LRel] at h; subst h; cases hv
  | .one c :: r, cs, hs, ⟨c1, d1, e, ⟨u, e1, e2⟩, h2⟩, v, hv => by
    simp only [solid, Bool.and_eq_true] at hs
    subst e; subst e1
    rcases List.mem_append.1 hv with hv | hv
    · simp at hv; subst hv; exact (CRel.oneCell hs.1 e2).1
    · exact solid_one hs.2 h2 v hv
  | .arr k n l :: r, cs, hs, ⟨c1, d1, e, h1, h2⟩, v, hv => by
    simp only [solid] at hs
    subst e
    rcases List.mem_append.1 hv with hv | hv
    · exact LRel.all (fun x c hx => EK.Rel.one hx) h1.2 v hv
    · exact solid_one hs h2 v hv
  | .acs l :: r, cs, hs, ⟨c1, d1, e, h1, h2⟩, v, hv => by
    simp only [solid, Bool.and_eq_true] at hs
    subst e
    rcases List.mem_append.1 hv with hv | hv
    · exact R2.all hs.1 h1 v hv
    · exact solid_one hs.2 h2 v hv
  | .deep k l :: r, cs, hs, _, v, hv => by simp [solid] at hs

theorem segs_of_TV {tv : TV} {s : List Seg} {u : Value} (h : tv.segs? = some s) (hs : solid s = true) (hu : TVRel rom ρ tv u) : LRel (SegRel rom ρ) s u.cells.toList := by
  cases tv with
  | tup l => simp [TV.segs?] at h
  | av v =>
    simp [TV.segs?] at h
    subst h
    cases v with
    | one c =>
      simp only [AV.segs, solid, Bool.and_true] at hs
      rw [(CRel.oneCell hs hu).2]
      exact LRel.one ⟨u, rfl, hu⟩
    | agg l =>
      obtain ⟨cs, e, h⟩ := hu
      subst e
      simpa [AV.segs, Value.cells] using h

theorem widths_len : ∀ {s : List Seg} {cs : List Value} {n : Nat}, widths s = some n → LRel (SegRel rom ρ) s cs → cs.length = n
  | [], cs, n, h, hr => by simp only [LRel] at hr; simp [widths] at h; simp [hr, h]
  | g :: r, cs, n, h, ⟨c, d, e, h1, h2⟩ => by
    unfold widths at h
    split at h <;> cases h
    rename_i a b ha hb
    have := SegRel.width h1 ha
    have := widths_len hb h2
    subst e
    simp; omega

/-! What a store does to the world -/

theorem setCells_append (b : Nat) : ∀ (c d : List Value) (o : Nat) (w : World), w.setCells b o (c ++ d) = (w.setCells b o c).setCells b (o + c.length) d
  | [], d, o, w => rfl
  | v :: c, d, o, w => by
    simp only [List.cons_append, World.setCells, List.length_cons]
    rw [setCells_append b c d (o + 1) _]
    congr 1
    omega

theorem setCells_other (b k : Nat) (hk : k ≠ b) : ∀ (vs : List Value) (o : Nat) (w : World), (w.setCells b o vs).heap[k]? = w.heap[k]?
  | [], _, _ => rfl
  | v :: r, o, w => by
    simp only [World.setCells]
    rw [setCells_other b k hk r]
    simp [World.setCell, Array.getElem?_modify, Ne.symm hk]

theorem setCells_same (b : Nat) : ∀ (vs : List Value) (o : Nat) (w : World), (w.setCells b o vs).heap.size = w.heap.size ∧ (w.setCells b o vs).os = w.os ∧ (w.setCells b o vs).tape = w.tape ∧ (w.setCells b o vs).output = w.output
  | [], _, _ => ⟨rfl, rfl, rfl, rfl⟩
  | v :: r, o, w => by
    have := setCells_same b r (o + 1) (w.setCell ⟨b, o, none⟩ v)
    simp only [World.setCells]
    refine ⟨this.1.trans (by simp), this.2.1.trans rfl, this.2.2.1.trans rfl, this.2.2.2.trans rfl⟩

/-- New cells laid into a row's old ones. -/
theorem splice_cells {b o p : Nat} {cs old : List Value} (hp : p + cs.length ≤ old.length) (hold : ∀ j v, old[j]? = some v → w.cell? ⟨b, o + j, none⟩ = some v) :
    ∀ j v, (old.take p ++ cs ++ old.drop (p + cs.length))[j]? = some v → (w.setCells b (o + p) cs).cell? ⟨b, o + j, none⟩ = some v := by
  intro j v hj
  have hsome : ∀ i, i < cs.length → (w.cell? ⟨b, o + p + i, none⟩).isSome = true := fun i hi => by
    have := hold (p + i) (old[p + i]'(by omega)) (by rw [List.getElem?_eq_getElem (by omega)])
    rw [← Nat.add_assoc] at this
    rw [this]; rfl
  by_cases h1 : j < p
  · rw [List.append_assoc, List.getElem?_append_left (by simp; omega), List.getElem?_take, if_pos h1] at hj
    rw [World.cell?_setCells_out b cs _ w _ (fun _ _ => .inl (by simp; omega))]
    exact hold j v hj
  · by_cases h2 : j < p + cs.length
    · rw [List.append_assoc, List.getElem?_append_right (by simp; omega), List.getElem?_append_left (by simp; omega)] at hj
      simp only [List.length_take, Nat.min_eq_left (show p ≤ old.length by omega)] at hj
      have hlt := (List.getElem?_eq_some_iff.1 hj).1
      have := World.cell?_setCells_in b cs (o + p) w hsome (j - p) hlt
      rw [show o + p + (j - p) = o + j by omega] at this
      rw [this, ← hj, List.getElem?_eq_getElem hlt]
    · rw [List.getElem?_append_right (by simp; omega), List.getElem?_drop] at hj
      simp only [List.length_append, List.length_take, Nat.min_eq_left (show p ≤ old.length by omega)] at hj
      rw [World.cell?_setCells_out b cs _ w _ (fun _ _ => .inr (by simp; omega))]
      rw [show p + cs.length + (j - (p + cs.length)) = j by omega] at hj
      exact hold j v hj

theorem setCells_isSome (b : Nat) : ∀ (vs : List Value) (o : Nat) (w : World) (x : Addr), (w.cell? x).isSome = true → ((w.setCells b o vs).cell? x).isSome = true
  | [], _, _, _, h => h
  | v :: r, o, w, x, h => by
    simp only [World.setCells]
    refine setCells_isSome b r (o + 1) _ x ?_
    by_cases he : (⟨b, o, none⟩ : Addr) = x
    · subst he
      obtain ⟨u, hu⟩ := Option.isSome_iff_exists.1 h
      rw [World.cell?_setCell_same _ _ _ hu]; rfl
    · rw [World.cell?_setCell_other _ _ _ _ he]; exact h

/-- A block's cells, some of them set. -/
theorem BRel.store {g g' : Seg} {r : RE} {p : Nat} {cs : List Value} (hb : BRel rom ρ w g r)
    (h : ∀ old, SegRel rom ρ g old → p + cs.length ≤ old.length ∧ SegRel rom ρ g' (old.take p ++ cs ++ old.drop (p + cs.length))) (hl : glen g' r.n) (hf : g.flat = true) (hf' : g'.flat = true) :
    BRel rom ρ (w.setCells r.b (r.o + p) cs) g' r ∧ p + cs.length ≤ r.ext := by
  obtain ⟨⟨old, h1, h2, h3⟩, h4, h5, hx⟩ := hb
  obtain ⟨h6, h7⟩ := h old h1
  refine ⟨⟨⟨_, h7, by simp; omega, splice_cells h6 h3⟩, hl, fun j hj => ?_, (XRel.flat hf').2 ((XRel.flat hf).1 hx)⟩, by omega⟩
  obtain ⟨q1, q2⟩ := h5 j hj
  exact ⟨setCells_isSome _ _ _ _ _ q1, by rw [frz_setCells]; exact q2⟩

/-- One block is written: what holds behind it. -/
theorem aft_store (hR : Rel rom ρ hg w) (hL : Lnk ρ hg lk) {id : Nat} {g g' : Seg} {r : RE} {p : Nat} {cs : List Value} (hid : hg id = some g) (hr : ρ id = some r)
    (h : ∀ old, SegRel rom ρ g old → p + cs.length ≤ old.length ∧ SegRel rom ρ g' (old.take p ++ cs ++ old.drop (p + cs.length))) (hl : glen g' r.n) (hw : g'.width = g.width) (hf : g.flat = true) (hf' : g'.flat = true) :
    Rel rom ρ (setF hg id (some g')) (w.setCells r.b (r.o + p) cs) ∧ Lnk ρ (setF hg id (some g')) lk ∧
    Tr rom ρ hg w rom ρ (setF hg id (some g')) (w.setCells r.b (r.o + p) cs) ∧
    (∀ j, j < cs.length → (w.cell? ⟨r.b, r.o + p + j, none⟩).isSome = true ∧ frz w r.b = false) := by
  obtain ⟨r', hr', hb⟩ := hR.blk id g hid
  rw [hr] at hr'
  cases hr'
  obtain ⟨hb', hext⟩ := hb.store h hl hf hf'
  have hown : ∀ j, j < cs.length → r.has r.b (r.o + p + j) := fun j hj => .inl ⟨rfl, by omega, by omega⟩
  have hc : ∀ b o, ¬ r.has b o → (w.setCells r.b (r.o + p) cs).cell? ⟨b, o, none⟩ = w.cell? ⟨b, o, none⟩ ∧ frz (w.setCells r.b (r.o + p) cs) b = frz w b := by
    intro b o ho
    refine ⟨World.cell?_setCells_out _ _ _ _ _ (fun e1 _ => ?_), frz_setCells _ _ _ _ _⟩
    simp only at e1
    by_cases hlt : o < r.o + p ∨ r.o + p + cs.length ≤ o
    · exact hlt
    · exact absurd (.inl ⟨e1.symm, by omega, by omega⟩) ho
  have hs := setCells_same r.b cs (r.o + p) w
  refine ⟨hR.upd hid hr hb' hc, hL.upd hid hw, Tr.stored hs.1 hs.2.1 hs.2.2.1 hs.2.2.2 (fun b o ho => Own.upd hid ho) (fun b ho => ?_) (fun b o ho => hc b o (fun hh => ho ⟨id, g, r, hid, hr, hh⟩)), fun j hj => ?_⟩
  · by_cases hb0 : b = r.b
    · subst hb0
      cases cs with
      | nil => rfl
      | cons v cs => exact absurd ⟨id, g, r, hid, hr, hown 0 (by simp)⟩ (ho _)
    · exact setCells_other r.b b hb0 _ _ _
  · have := hb.there (p + j) (by omega)
    rwa [← Nat.add_assoc] at this

/-- A place in a row is set. -/
theorem DRel.set {k : IntKind} {l : List (List Int)} {r : RE} (h : DRel w k l r) {i b o len cap j : Nat} (hi : r.hs[i]? = some (.slice (some ⟨b, o, none⟩) len cap)) (hj : j < (l.getD i []).length) (n : Int) :
    DRel (w.setCells b (o + j) [.int k n]) k (l.set i ((l.getD i []).set j n)) r ∧ r.own b (o + j) := by
  have hlt := (List.getElem?_eq_some_iff.1 hi).1
  rw [h.len] at hlt
  have hl : l[i]? = some (l.getD i []) := by simp [List.getD, hlt]
  have hown := (h.row i _ hl b o len cap hi j ((l.getD i []).getD j 0) (by rw [List.getD_eq_getElem?_getD (l := l.getD i []), List.getElem?_eq_getElem hj]; rfl)).2
  obtain ⟨base0, cap0, g1, g2, g3⟩ := h.head i _ hl
  rw [hi] at g1
  cases g1
  have hself : ((w.setCells b (o + j) [.int k n]).cell? ⟨b, o + j, none⟩) = some (.int k n) := by
    have := World.cell?_setCells_in b [Value.int k n] (o + j) w (fun i hi => by
      have : i = 0 := (by simp at hi; exact hi)
      subst this
      exact (h.there _ _ hown).1) 0 (by simp)
    simpa using this
  have hout : ∀ b' o', ¬ (b' = b ∧ o' = o + j) → (w.setCells b (o + j) [.int k n]).cell? ⟨b', o', none⟩ = w.cell? ⟨b', o', none⟩ := fun b' o' hne => by
    refine World.cell?_setCells_out _ _ _ _ _ (fun e1 _ => ?_)
    simp only at e1
    simp only [List.length_singleton]
    by_cases hh : o' = o + j
    · exact absurd ⟨e1, hh⟩ hne
    · omega
  refine ⟨⟨by simp [h.len], h.ext, fun i' v hv => ?_, fun i' x hx => ?_, fun i' x hx b' o' len' cap' hs' t m hm => ?_, h.apart, fun b' o' ho => ⟨setCells_isSome _ _ _ _ _ (h.there b' o' ho).1, by rw [frz_setCells]; exact (h.there b' o' ho).2⟩, h.out⟩, hown⟩
  · have hne : ¬ (r.b = b ∧ r.o + i' = o + j) := fun ⟨e1, e2⟩ => by
      have hlt' := (List.getElem?_eq_some_iff.1 hv).1
      have := h.ext
      exact h.out b (o + j) hown ⟨e1, by omega, by omega⟩
    rw [hout _ _ hne]
    exact h.main i' v hv
  · by_cases e : i' = i
    · subst e
      rw [List.getElem?_set_self hlt] at hx
      cases hx
      exact ⟨_, cap, by rw [hi]; simp, by simpa using g2, g3⟩
    · rw [List.getElem?_set_ne (Ne.symm e)] at hx
      exact h.head i' x hx
  · by_cases e : i' = i
    · subst e
      rw [List.getElem?_set_self hlt] at hx
      cases hx
      rw [hi] at hs'
      cases hs'
      by_cases et : t = j
      · subst et
        rw [List.getElem?_set_self hj] at hm
        cases hm
        exact ⟨hself, hown⟩
      · rw [List.getElem?_set_ne (Ne.symm et)] at hm
        obtain ⟨p1, p2⟩ := h.row i' _ hl b o _ cap hi t m hm
        exact ⟨by rw [hout _ _ (fun ⟨_, e2⟩ => et (by omega))]; exact p1, p2⟩
    · rw [List.getElem?_set_ne (Ne.symm e)] at hx
      obtain ⟨p1, p2⟩ := h.row i' x hx b' o' len' cap' hs' t m hm
      have hne : ¬ (b' = b ∧ o' + t = o + j) := fun ⟨e1, e2⟩ => by
        subst e1
        obtain ⟨base', cap2, q1, q2, q3⟩ := h.head i' x hx
        rw [hs'] at q1
        cases q1
        have ht := (List.getElem?_eq_some_iff.1 hm).1
        exact h.apart i' i e b' o' _ cap' hs' o _ cap hi t j ht hj e2
      exact ⟨by rw [hout _ _ hne]; exact p1, p2⟩

theorem aft_row (hR : Rel rom ρ hg w) (hL : Lnk ρ hg lk) {id : Nat} {k : IntKind} {l : List (List Int)} {r : RE} {i b o len cap j : Nat} (hid : hg id = some (.deep k l)) (hr : ρ id = some r)
    (hi : r.hs[i]? = some (.slice (some ⟨b, o, none⟩) len cap)) (hj : j < (l.getD i []).length) (n : Int) :
    Rel rom ρ (setF hg id (some (.deep k (l.set i ((l.getD i []).set j n))))) (w.setCells b (o + j) [.int k n]) ∧ Lnk ρ (setF hg id (some (.deep k (l.set i ((l.getD i []).set j n))))) lk ∧
    Tr rom ρ hg w rom ρ (setF hg id (some (.deep k (l.set i ((l.getD i []).set j n))))) (w.setCells b (o + j) [.int k n]) ∧
    ((w.cell? ⟨b, o + j, none⟩).isSome = true ∧ frz w b = false) := by
  obtain ⟨r', hr', hb⟩ := hR.blk id _ hid
  rw [hr] at hr'
  cases hr'
  have hx : DRel w k l r := hb.ex
  obtain ⟨hx', hown⟩ := hx.set hi hj n
  have hc : ∀ b' o', ¬ r.has b' o' → (w.setCells b (o + j) [.int k n]).cell? ⟨b', o', none⟩ = w.cell? ⟨b', o', none⟩ ∧ frz (w.setCells b (o + j) [.int k n]) b' = frz w b' := by
    intro b' o' ho
    refine ⟨World.cell?_setCells_out _ _ _ _ _ (fun e1 _ => ?_), frz_setCells _ _ _ _ _⟩
    simp only at e1
    simp only [List.length_singleton]
    by_cases hh : o' = o + j
    · subst e1; subst hh; exact absurd (.inr hown) ho
    · omega
  have hs := setCells_same b [.int k n] (o + j) w
  have hb' : BRel rom ρ (w.setCells b (o + j) [.int k n]) (.deep k (l.set i ((l.getD i []).set j n))) r := by
    obtain ⟨⟨cs, c1, c2, c3⟩, c4, c5, _⟩ := hb
    refine ⟨⟨r.hs, by simp [SegRel, hx.len], hx.ext, hx'.main⟩, by simpa [glen] using c4, fun j' hj' => ?_, hx'⟩
    obtain ⟨p1, p2⟩ := c5 j' hj'
    exact ⟨setCells_isSome _ _ _ _ _ p1, by rw [frz_setCells]; exact p2⟩
  refine ⟨hR.upd hid hr hb' hc, hL.upd hid rfl, Tr.stored hs.1 hs.2.1 hs.2.2.1 hs.2.2.2 (fun b o ho => Own.upd hid ho) (fun b' ho => ?_) (fun b o ho => hc b o (fun hh => ho ⟨id, _, r, hid, hr, hh⟩)), hx.there _ _ hown⟩
  by_cases hb0 : b' = b
  · subst hb0
    exact absurd ⟨id, _, r, hid, hr, .inr hown⟩ (ho _)
  · exact setCells_other b b' hb0 _ _ _

theorem storeSegs_congr {hg' : Nat → Option Seg} : ∀ (s : List Seg) (id : Nat), (∀ j, id ≤ j → hg j = hg' j) → storeSegs hg lk id s = storeSegs hg' lk id s
  | [], _, _ => rfl
  | g :: r, id, h => by
    simp only [storeSegs, h id (Nat.le_refl _)]
    cases r with
    | nil => rfl
    | cons x r => simp only [storeSegs_congr (x :: r) (id + 1) (fun j hj => h j (by omega))]

theorem seg_store_whole {g g' : Seg} {cs : List Value} {n : Nat} (hw' : g'.width = some n) (hw : g.width = some n) (h : SegRel rom ρ g' cs) :
    ∀ old, SegRel rom ρ g old → 0 + cs.length ≤ old.length ∧ SegRel rom ρ g' (old.take 0 ++ cs ++ old.drop (0 + cs.length)) := by
  intro old ho
  have h1 := SegRel.width ho hw
  have h2 := SegRel.width h hw'
  refine ⟨by omega, ?_⟩
  rw [List.drop_of_length_le (by omega)]
  simpa using h

theorem glen_static {g : Seg} {n w : Nat} (hw : g.width = some w) : glen g n := by
  cases g with
  | one c => trivial
  | acs l => simp [Seg.width] at hw
  | deep k l => simp [Seg.width] at hw
  | arr k m l => cases m <;> simp [Seg.width] at hw <;> simp [glen]

theorem storeSegs_ok : ∀ (s : List Seg) (id : Nat) (u : List (Nat × Option Seg)) {hg : Nat → Option Seg} {w : World} {cs : List Value} {r : RE}, Rel rom ρ hg w → Lnk ρ hg lk →
    storeSegs hg lk id s = some u → s ≠ [] → ρ id = some r → LRel (SegRel rom ρ) s cs →
    Rel rom ρ (hgU hg u) (w.setCells r.b r.o cs) ∧ Lnk ρ (hgU hg u) lk ∧ Tr rom ρ hg w rom ρ (hgU hg u) (w.setCells r.b r.o cs) ∧
    (∀ j, j < cs.length → (w.cell? ⟨r.b, r.o + j, none⟩).isSome = true ∧ frz w r.b = false)
  | [], _, _, _, _, _, _, _, _, _, h, _, _ => absurd rfl h
  | g :: rest, id, u, hg, w, cs, r, hR, hL, hu, _, hr, ⟨c, d, e, h1, h2⟩ => by
    unfold storeSegs at hu
    split at hu <;> try (cases hu; done)
    rename_i o hid
    split at hu <;> try (cases hu; done)
    rename_i wd v hwd hv
    split at hu <;> try (cases hu; done)
    rename_i he
    subst he
    have hst := aft_store (p := 0) hR hL hid hr (seg_store_whole hwd hv h1) (glen_static hwd) (hwd.trans hv.symm) (Seg.flat_of_width hv) (Seg.flat_of_width hwd)
    simp only [Nat.add_zero] at hst
    obtain ⟨q1, q2, q3, q4⟩ := hst
    split at hu
    · cases hu
      simp only [LRel] at h2
      subst h2
      simp only [List.append_nil] at e
      subst e
      exact ⟨q1, q2, q3, q4⟩
    · rename_i hne
      split at hu <;> try (cases hu; done)
      rename_i hlk
      split at hu <;> try (cases hu; done)
      rename_i u' hu'
      cases hu
      obtain ⟨hext, r2, e1, e2, e3⟩ := hL id r o wd hlk hr hid hv
      rw [storeSegs_congr (hg' := setF hg id (some g)) rest (id + 1) (fun j hj => (setF_ne hg _ (by omega)).symm)] at hu'
      obtain ⟨p1, p2, p3, p4⟩ := storeSegs_ok rest (id + 1) u' q1 q2 hu' (by rintro rfl; exact hne rfl) e1 h2
      have hlen := SegRel.width h1 hwd
      have hw2 : (w.setCells r.b r.o c).setCells r2.b r2.o d = w.setCells r.b r.o cs := by
        rw [e, setCells_append, e2, e3, hlen]
      rw [hw2] at p1 p3
      refine ⟨p1, p2, q3.trans p3, fun j hj => ?_⟩
      by_cases hjc : j < c.length
      · exact q4 j hjc
      · have := p4 (j - c.length) (by rw [e] at hj; simp at hj; omega)
        rw [e2, e3, show r.o + wd + (j - c.length) = r.o + j by omega, frz_setCells, World.cell?_setCells_out _ _ _ _ _ (fun _ _ => .inr (by simp; omega))] at this
        exact this

/-- The model's store. -/
theorem run_storeVar (hΓ : TabOK P Γ) {t : Nat} {i : TI} (ht : tget Γ t = some i) {b o : Nat} {u : Value} (hn : u.cells.toList.length = i.size)
    (hc : ∀ j, j < u.cells.toList.length → (w.cell? ⟨b, o + j, none⟩).isSome = true ∧ frz w b = false) (h1 : ∀ v ∈ u.cells.toList, v.oneCell' = true) :
    (Instr.storeAt t (.pointer (some ⟨b, o, none⟩)) u).run P w = .ok () (w.setCells b o u.cells.toList) := by
  have hst := run_storeCells_cells (P := P) b o u.cells.toList 0 w (fun j hj => by simpa using (hc j hj).1) (fun j hj => by simpa using frozen_of_frz (hc j hj).2 (hc j hj).1) h1
  have hsz : u.cells.size = i.size := by simpa using hn
  unfold Instr.storeAt storeVar
  simp [Instr.sureAddr, run_sizeOf' hΓ ht, hsz]
  simpa using hst

theorem EK.setWhole_rel {k : EK} {x y : k.T} {j : Nat} {s : List Seg} {c cs : List Value} (h : k.setWhole j s = some y) (hx : EK.Rel rom k x c) (hs : LRel (SegRel rom ρ) s cs) (hne : cs.length ≠ 0) :
    j + cs.length ≤ c.length ∧ EK.Rel rom k y (c.take j ++ cs ++ c.drop (j + cs.length)) := by
  unfold EK.setWhole at h
  split at h <;> try (cases h; done)
  rename_i hj
  split at h <;> try (cases h; done)
  rename_i z hz
  cases h
  obtain ⟨c', d', e, e1, e2⟩ := EK.ofSegs_rel hz hs
  simp only [LRel] at e2
  subst e2; subst hj
  have l1 := EK.Rel.length hx
  have l2 := EK.Rel.length e1
  simp at e
  subst e
  exact ⟨by omega, by rw [List.drop_of_length_le (by omega)]; simpa using e1⟩

theorem EK.setWhole_solid {k : EK} {y : k.T} {j : Nat} {s : List Seg} (h : k.setWhole j s = some y) : ∃ (k' : EK) (z : k'.T), k'.ofSegs s = some (z, []) := by
  unfold EK.setWhole at h
  split at h <;> try (cases h; done)
  split at h <;> try (cases h; done)
  rename_i hz; exact ⟨_, _, hz⟩

theorem EK.setAt_rel : ∀ {k : EK} {x y : k.T} {j : Nat} {s : List Seg} {c cs : List Value}, k.setAt x j s = some y → EK.Rel rom k x c → LRel (SegRel rom ρ) s cs → cs.length ≠ 0 →
    j + cs.length ≤ c.length ∧ EK.Rel rom k y (c.take j ++ cs ++ c.drop (j + cs.length))
  | .pair a b, x, y, j, s, c, cs, h, hx, hs, hne => by
    have hx0 := hx
    obtain ⟨c1, d1, e, h1, h2⟩ := hx
    have l1 := EK.Rel.length h1
    have l2 := EK.Rel.length h2
    unfold EK.setAt at h
    split at h
    · rename_i hw
      cases h
      exact EK.setWhole_rel hw hx0 hs hne
    split at h
    · rename_i hj
      split at h <;> try (cases h; done)
      rename_i y1 hy1
      cases h
      obtain ⟨i1, i2⟩ := EK.setAt_rel hy1 h1 hs hne
      subst e
      refine ⟨by simp; omega, _, _, ?_, i2, h2⟩
      rw [List.take_append, List.drop_append, show j - c1.length = 0 by omega, show j + cs.length - c1.length = 0 by omega]
      simp
    · rename_i hj
      split at h <;> try (cases h; done)
      rename_i y1 hy1
      cases h
      obtain ⟨i1, i2⟩ := EK.setAt_rel hy1 h2 hs hne
      subst e
      refine ⟨by simp; omega, c1, _, ?_, h1, i2⟩
      rw [List.take_append, List.drop_append, List.take_of_length_le (by omega), List.drop_of_length_le (by omega)]
      simp only [List.nil_append, List.append_assoc]
      rw [show j - a.size = j - c1.length by omega, show j + cs.length - c1.length = j - c1.length + cs.length by omega]
  | .int _, x, y, j, s, c, cs, h, hx, hs, hne => EK.setWhole_rel h hx hs hne
  | .bool, x, y, j, s, c, cs, h, hx, hs, hne => EK.setWhole_rel h hx hs hne
  | .str, x, y, j, s, c, cs, h, hx, hs, hne => EK.setWhole_rel h hx hs hne
  | .sl _, x, y, j, s, c, cs, h, hx, hs, hne => EK.setWhole_rel h hx hs hne
  | .arr _ _, x, y, j, s, c, cs, h, hx, hs, hne => EK.setWhole_rel h hx hs hne
  | .unit, x, y, j, s, c, cs, h, hx, hs, hne => EK.setWhole_rel h hx hs hne

theorem EK.setAt_solid : ∀ {k : EK} {x y : k.T} {j : Nat} {s : List Seg}, k.setAt x j s = some y → ∃ (k' : EK) (z : k'.T), k'.ofSegs s = some (z, [])
  | .pair a b, x, y, j, s, h => by
    unfold EK.setAt at h
    split at h
    · rename_i hw
      exact EK.setWhole_solid hw
    split at h
    · split at h <;> try (cases h; done)
      rename_i hy; exact EK.setAt_solid hy
    · split at h <;> try (cases h; done)
      rename_i hy; exact EK.setAt_solid hy
  | .int _, x, y, j, s, h => EK.setWhole_solid h
  | .bool, x, y, j, s, h => EK.setWhole_solid h
  | .str, x, y, j, s, h => EK.setWhole_solid h
  | .sl _, x, y, j, s, h => EK.setWhole_solid h
  | .arr _ _, x, y, j, s, h => EK.setWhole_solid h
  | .unit, x, y, j, s, h => EK.setWhole_solid h

theorem ofSegs_solid : ∀ {k : EK} {s r : List Seg} {x : k.T}, k.ofSegs s = some (x, r) → solid r = true → solid s = true
  | .int _, [], r, x, h, _ => by simp [EK.ofSegs] at h
  | .int _, .arr _ _ _ :: _, r, x, h, _ => by simp [EK.ofSegs] at h
  | .int _, .acs _ :: _, r, x, h, _ => by simp [EK.ofSegs] at h
  | .int _, .deep _ _ :: _, r, x, h, _ => by simp [EK.ofSegs] at h
  | .int _, .one a :: s, r, x, h, hr => by
    cases a <;> try (simp [EK.ofSegs] at h; done)
    simp only [EK.ofSegs] at h
    split at h <;> cases h
    simpa [solid, AC.solid] using hr
  | .bool, [], r, x, h, _ => by simp [EK.ofSegs] at h
  | .bool, .arr _ _ _ :: _, r, x, h, _ => by simp [EK.ofSegs] at h
  | .bool, .acs _ :: _, r, x, h, _ => by simp [EK.ofSegs] at h
  | .bool, .deep _ _ :: _, r, x, h, _ => by simp [EK.ofSegs] at h
  | .bool, .one a :: s, r, x, h, hr => by
    cases a <;> try (simp [EK.ofSegs] at h; done)
    simp only [EK.ofSegs] at h
    cases h
    simpa [solid, AC.solid] using hr
  | .str, [], r, x, h, _ => by simp [EK.ofSegs] at h
  | .str, .arr _ _ _ :: _, r, x, h, _ => by simp [EK.ofSegs] at h
  | .str, .acs _ :: _, r, x, h, _ => by simp [EK.ofSegs] at h
  | .str, .deep _ _ :: _, r, x, h, _ => by simp [EK.ofSegs] at h
  | .str, .one a :: s, r, x, h, hr => by
    cases a <;> try (simp [EK.ofSegs] at h; done)
    simp only [EK.ofSegs] at h
    cases h
    simpa [solid, AC.solid] using hr
  | .sl _, [], r, x, h, _ => by simp [EK.ofSegs] at h
  | .sl _, .arr _ _ _ :: _, r, x, h, _ => by simp [EK.ofSegs] at h
  | .sl _, .acs _ :: _, r, x, h, _ => by simp [EK.ofSegs] at h
  | .sl _, .deep _ _ :: _, r, x, h, _ => by simp [EK.ofSegs] at h
  | .sl _, .one a :: s, r, x, h, hr => by
    cases a <;> try (simp [EK.ofSegs] at h; done)
    · simp only [EK.ofSegs] at h
      cases h
      simpa [solid, AC.solid] using hr
    · simp only [EK.ofSegs] at h
      split at h <;> cases h
      simpa [solid, AC.solid] using hr
  | .arr _ _, [], r, x, h, _ => by simp [EK.ofSegs] at h
  | .arr _ _, .one _ :: _, r, x, h, _ => by simp [EK.ofSegs] at h
  | .arr _ _, .acs _ :: _, r, x, h, _ => by simp [EK.ofSegs] at h
  | .arr _ _, .deep _ _ :: _, r, x, h, _ => by simp [EK.ofSegs] at h
  | .arr _ _, .arr _ none _ :: _, r, x, h, _ => by simp [EK.ofSegs] at h
  | .arr _ _, .arr _ (some _) _ :: s, r, x, h, hr => by
    simp only [EK.ofSegs] at h
    split at h
    · rename_i he
      subst he
      split at h <;> cases h
      simpa [solid] using hr
    · cases h
  | .pair a b, s, r, x, h, hr => by
    have h' : (match a.ofSegs s with
      | some (x, s') => match b.ofSegs s' with
        | some (y, s'') => some ((x, y), s'')
        | none => none
      | none => none) = some (x, r) := by rw [← h]; rfl
    split at h' <;> try (cases h'; done)
    rename_i x1 s1 h1
    split at h' <;> try (cases h'; done)
    rename_i y1 s2 h2
    cases h'
    exact ofSegs_solid h1 (ofSegs_solid h2 hr)
  | .unit, s, r, x, h, hr => by
    have h' : some ((), s) = some (x, r) := by rw [← h]; rfl
    cases h'
    exact hr

/-- An element of a block is written. -/
theorem elem_store {k : EK} {n : Option Nat} {l : List k.T} {i j : Nat} {y : k.T} {cs : List Value} (hi : i < l.length)
    (hy : ∀ c, EK.Rel rom k (l.getD i k.dflt) c → j + cs.length ≤ c.length ∧ EK.Rel rom k y (c.take j ++ cs ++ c.drop (j + cs.length))) :
    ∀ old, SegRel rom ρ (.arr k n l) old → i * k.size + j + cs.length ≤ old.length ∧ SegRel rom ρ (.arr k n (l.set i y)) (old.take (i * k.size + j) ++ cs ++ old.drop (i * k.size + j + cs.length)) := by
  intro old ⟨ho1, ho2⟩
  have hsz : ∀ x c, EK.Rel rom k x c → c.length = k.size := fun x c hx => EK.Rel.length hx
  obtain ⟨p, c, q, e, hp, hc⟩ := LRel.get hsz ho2 i hi
  obtain ⟨h1, h2⟩ := hy c (by simpa [List.getD, hi] using hc)
  have hcl := hsz _ _ hc
  have hset := LRel.set hsz ho2 i y _ hi h2
  subst e
  refine ⟨by simp; omega, fun m hm => by simpa using ho1 m hm, ?_⟩
  have e1 : (p ++ c ++ q).take (i * k.size) = p := by rw [← hp]; simp [List.take_append]
  have e2 : (p ++ c ++ q).drop (i * k.size + k.size) = q := by
    rw [← hp, ← hcl, List.append_assoc, List.drop_append]
    simp [List.drop_append]
  have e3 : (p ++ c ++ q).take (i * k.size + j) = p ++ c.take j := by
    rw [← hp, List.append_assoc, List.take_append, List.take_of_length_le (by omega)]
    congr 1
    rw [show p.length + j - p.length = j by omega, List.take_append, show j - c.length = 0 by omega]
    simp
  have e4 : (p ++ c ++ q).drop (i * k.size + j + cs.length) = c.drop (j + cs.length) ++ q := by
    rw [← hp, List.append_assoc, List.drop_append, List.drop_of_length_le (by omega), List.nil_append, List.drop_append]
    rw [show p.length + j + cs.length - p.length = j + cs.length by omega, show j + cs.length - c.length = 0 by omega]
    simp
  rw [e1, e2] at hset
  rw [e3, e4]
  simpa using hset

theorem storeA_ok (hΓ : TabOK P Γ) (hR : Rel rom ρ hg w) (hL : Lnk ρ hg lk) {t : Nat} {c : AC} {tv : TV} {s : List Seg} {u v : Value} {r : OR} (h : storeA hg lk Γ t c s = some r)
    (hs : tv.segs? = some s) (hu : CRel rom ρ c u) (hv : TVRel rom ρ tv v) (nid : Nat) : r.chk = true → ∃ w', (Instr.storeAt t u v).run P w = .ok () w' ∧
      ∀ x, (r.k x).v = .tup [] ∧ (r.k x).new = [] ∧ Aft rom ρ hg w rom ρ (hgA hg nid (r.k x)) lk w' nid 0 := by
  intro hc
  unfold storeA at h
  split at h <;> try (cases h; done)
  rename_i ti ht
  split at h <;> try (cases h; done)
  rename_i wd hwd
  split at h <;> try (cases h; done)
  rename_i hsz
  split at h
  · rename_i id
    split at h <;> try (cases h; done)
    rename_i hsol
    split at h <;> try (cases h; done)
    rename_i us hus
    cases h
    have hcs := segs_of_TV hs hsol hv
    obtain ⟨r0, hr0, e1⟩ := hu
    have hne : s ≠ [] := by rintro rfl; simp [widths] at hwd
    obtain ⟨q1, q2, q3, q4⟩ := storeSegs_ok s id us hR hL hus hne hr0 hcs
    have hlen := widths_len hwd hcs
    refine ⟨_, ?_, fun x => ⟨rfl, rfl, q1, q2, q3, fun _ h _ => h⟩⟩
    rw [e1]
    simp only [Nat.mul_zero, Nat.add_zero]
    exact run_storeVar hΓ ht (hlen.trans hsz) q4 (solid_one hsol hcs)
  · rename_i id esz i j
    split at h
    · rename_i k n l hid
      split at h <;> try (cases h; done)
      rename_i hes
      split at h <;> try (cases h; done)
      rename_i y hy
      cases h
      have hi : i < l.length := by simpa [OR.eff] using hc
      obtain ⟨k', z, hz⟩ := EK.setAt_solid hy
      have hsol := ofSegs_solid hz rfl
      have hcs := segs_of_TV hs hsol hv
      have hlen := widths_len hwd hcs
      obtain ⟨r0, hr0, e1⟩ := hu
      have hne : v.cells.toList.length ≠ 0 := by omega
      have hgl : glen (.arr k n (l.set i y)) r0.n := by
        obtain ⟨r', hr', hb⟩ := hR.blk id _ hid
        rw [hr0] at hr'
        cases hr'
        have := hb.len
        cases n <;> simp_all [glen]
      have hst := aft_store (p := i * k.size + j) hR hL hid hr0 (elem_store (n := n) hi (fun c hc => EK.setAt_rel hy hc hcs hne)) hgl (by cases n <;> simp [Seg.width]) rfl rfl
      obtain ⟨q1, q2, q3, q4⟩ := hst
      refine ⟨_, ?_, fun x => ⟨rfl, rfl, q1, q2, q3, fun _ h _ => h⟩⟩
      rw [e1]
      have hes' : esz.succ = k.size := hes
      simp only [hes']
      rw [show r0.o + i * k.size + j = r0.o + (i * k.size + j) by omega]
      exact run_storeVar hΓ ht (hlen.trans hsz) q4 (solid_one hsol hcs)
    · rename_i l hid
      split at h <;> try (cases h; done)
      rename_i c0
      split at h <;> try (cases h; done)
      rename_i hsol
      split at h <;> try (cases h; done)
      rename_i hes
      split at h <;> try (cases h; done)
      rename_i hi
      cases h
      have hcs := segs_of_TV hs hsol hv
      have hlen := widths_len hwd hcs
      obtain ⟨r0, hr0, e1⟩ := hu
      obtain ⟨c1, d1, e2, ⟨z, e3, e4⟩, e5⟩ := hcs
      simp only [LRel] at e5
      subst e5; subst e3
      simp only [List.append_nil] at e2
      have hgl : glen (.acs (l.set i c0)) r0.n := by
        obtain ⟨r', hr', hb⟩ := hR.blk id _ hid
        rw [hr0] at hr'
        cases hr'
        have := hb.len
        simp_all [glen]
      have hst := aft_store (p := i) (cs := [z]) (g' := .acs (l.set i c0)) hR hL hid hr0 (fun old ho => by
        have hl := R2.length ho
        refine ⟨by simp; omega, ?_⟩
        have := R2.set ho i c0 z e4
        simp only [SegRel]
        have e : old.take i ++ [z] ++ old.drop (i + [z].length) = old.set i z := by
          rw [List.set_eq_take_append_cons_drop, if_pos (by omega)]
          simp
        rw [e]
        exact this) hgl (by simp [Seg.width]) rfl rfl
      obtain ⟨q1, q2, q3, q4⟩ := hst
      refine ⟨_, ?_, fun x => ⟨rfl, rfl, q1, q2, q3, fun _ h _ => h⟩⟩
      rw [e1]
      subst hes
      simp only [Nat.zero_add, Nat.mul_one, Nat.add_zero]
      have := run_storeVar (b := r0.b) (o := r0.o + i) (w := w) hΓ ht (u := v) (hlen.trans hsz) (by rw [e2]; exact q4) (by rw [e2]; intro v hv; simp at hv; subst hv; simp only [solid, Bool.and_true] at hsol; exact (CRel.oneCell hsol e4).1)
      rw [e2] at this
      exact this
    · cases h
  · -- a place in a row
    rename_i id i j
    split at h <;> try (cases h; done)
    rename_i k l hid
    split at h <;> try (cases h; done)
    rename_i k' n
    split at h <;> try (cases h; done)
    rename_i hk
    subst hk
    cases h
    have hj : j < (l.getD i []).length := by simpa [OR.eff] using hc
    obtain ⟨r0, b, o, len, cap, hr0, e2, e3⟩ := hu
    have hcs := segs_of_TV hs rfl hv
    have hlen := widths_len hwd hcs
    obtain ⟨c1, d1, e4, ⟨z, e5, e6⟩, e7⟩ := hcs
    simp only [LRel] at e7
    subst e7; subst e5
    simp only [List.append_nil] at e4
    simp only [CRel] at e6
    subst e6
    obtain ⟨q1, q2, q3, q4⟩ := aft_row hR hL hid hr0 e2 hj n
    refine ⟨_, ?_, fun x => ⟨rfl, rfl, q1, q2, q3, fun _ h _ => h⟩⟩
    rw [e3]
    have := run_storeVar (b := b) (o := o + j) (w := w) hΓ ht (u := v) (hlen.trans hsz) (by rw [e4]; intro j' hj'; have : j' = 0 := (by simp at hj'; exact hj'); subst this; exact q4) (by rw [e4]; intro v hv; simp at hv; subst hv; rfl)
    rw [e4] at this
    exact this
  · cases h

end
end Go.Rf
