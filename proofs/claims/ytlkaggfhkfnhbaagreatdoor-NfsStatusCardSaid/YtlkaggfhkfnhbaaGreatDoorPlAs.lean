/-
  errors.As at a target of type *api.Errno, whatever chain of errors: walked.
-/
import Derived.Test.YtlkaggfhkfnhbaaGreatDoorProg
import Derived.WalkKit
import Derived.LaidEql
import Derived.Stop.Asserts
import Derived.RowKitTokens
import Derived.Deep.LoopGhost
set_option linter.unusedVariables false
set_option linter.unusedSimpArgs false
namespace Go.Rf.W.As
open Go Go.Proofs Go.RowKit Go.Extern.Stop Go.Stop Go.Extern

theorem valueOf111 (t : Addr) (w : World) : (ReflectliteValue.unpack (.iface 111 (.pointer (some t)))).run Tryz.prog w
    = .ok (.agg #[.pointer (some ⟨1, 111, none⟩), .pointer (some ⟨w.heap.size, 0, none⟩), .int .u64 150]) (w.alloc (.cells #[.pointer (some t)] 111)) := by kernel_rfl
theorem type111 (a : Addr) (w : World) : (ReflectliteValue.methodAny (ReflectliteValue.valueError "reflectlite.Value.Type" 0) (fun t _ _ _ => ReflectliteType.toType t) #[.agg #[.pointer (some ⟨1, 111, none⟩), .pointer (some a), .int .u64 150]]).run Tryz.prog w
    = .ok (.iface 205 (.agg #[.pointer (some ⟨1, 111, none⟩)])) w := by kernel_rfl
theorem methodKind (h : Value) (w : World) : (Go.method 373 205 (.agg #[h]) "Kind").run Tryz.prog w = .ok (165, h) w := by kernel_rfl
theorem kind111 (w : World) : ((ReflectliteType.abiMethod fun t => (fun a : Nat => Value.int IntKind.u8 (a : Int)) <$> Rtype.kind t) #[.pointer (some ⟨1, 111, none⟩)]).run Tryz.prog w = .ok (.int .u8 22) w := by kernel_rfl
theorem kind32 (w : World) : ((ReflectliteType.abiMethod fun t => (fun a : Nat => Value.int IntKind.u8 (a : Int)) <$> Rtype.kind t) #[.pointer (some ⟨1, 32, none⟩)]).run Tryz.prog w = .ok (.int .u8 2) w := by kernel_rfl
theorem rlm (z : Sem Value) (f : TypeId → Addr → Nat → Nat → Sem Value) (v : Value) :
    ReflectliteValue.method z f #[v] = (do match ← ReflectliteValue.parts v with | none => z | some (t, a, fl) => f t a fl (fl % 32)) := rfl
theorem parts111 (a : Addr) (w : World) : (ReflectliteValue.parts (.agg #[.pointer (some ⟨1, 111, none⟩), .pointer (some a), .int .u64 150])).run Tryz.prog w = .ok (some (111, a, 150)) w := by kernel_rfl
theorem isNil111 (a p : Addr) (W : World) (ha : W.cell? a = some (.pointer (some p))) :
    (ReflectliteValue.method (ReflectliteValue.valueError "reflectlite.Value.IsNil" 0) ReflectliteValue.isNil #[.agg #[.pointer (some ⟨1, 111, none⟩), .pointer (some a), .int .u64 150]]).run Tryz.prog W = .ok (.bool false) W := by
  rw [rlm]
  simp only [Sem.run_bind, parts111, Result.andThen]
  simp [ReflectliteValue.isNil, loadVar, isAgg, underlying, Tryz.underlying111, ha, Result.andThen]
theorem methodElem (h : Value) (w : World) : (Go.method 373 205 (.agg #[h]) "Elem").run Tryz.prog w = .ok (178, .agg #[h]) w := by kernel_rfl
theorem methodImplements (h : Value) (w : World) : (Go.method 373 205 (.agg #[h]) "Implements").run Tryz.prog w = .ok (179, .agg #[h]) w := by kernel_rfl
theorem methodAssignableTo (h : Value) (w : World) : (Go.method 373 205 (.agg #[h]) "AssignableTo").run Tryz.prog w = .ok (176, .agg #[h]) w := by kernel_rfl
theorem elem111 (w : World) : (ReflectliteType.method ReflectliteType.elem #[.agg #[.pointer (some ⟨1, 111, none⟩)]]).run Tryz.prog w = .ok (.iface 205 (.agg #[.pointer (some ⟨1, 32, none⟩)])) w := by kernel_rfl
theorem implements32 (w : World) : (ReflectliteType.relation "Implements" ReflectliteType.implements_ #[.agg #[.pointer (some ⟨1, 32, none⟩)], .iface 205 (.agg #[.pointer (some ⟨1, 48, none⟩)])]).run Tryz.prog w = .ok (.bool true) w := by kernel_rfl
theorem typeOf32 (v : Value) (w : World) : (ReflectliteType.typeOf #[.iface 32 v]).run Tryz.prog w = .ok (.iface 205 (.agg #[.pointer (some ⟨1, 32, none⟩)])) w := by kernel_rfl
theorem typeOf46 (v : Value) (w : World) : (ReflectliteType.typeOf #[.iface 46 v]).run Tryz.prog w = .ok (.iface 205 (.agg #[.pointer (some ⟨1, 46, none⟩)])) w := by kernel_rfl
theorem typeOf49 (v : Value) (w : World) : (ReflectliteType.typeOf #[.iface 49 v]).run Tryz.prog w = .ok (.iface 205 (.agg #[.pointer (some ⟨1, 49, none⟩)])) w := by kernel_rfl
theorem assignable32 (w : World) : (ReflectliteType.relation "AssignableTo" ReflectliteType.assignableTo #[.agg #[.pointer (some ⟨1, 32, none⟩)], .iface 205 (.agg #[.pointer (some ⟨1, 32, none⟩)])]).run Tryz.prog w = .ok (.bool true) w := by kernel_rfl
theorem assignable46 (w : World) : (ReflectliteType.relation "AssignableTo" ReflectliteType.assignableTo #[.agg #[.pointer (some ⟨1, 46, none⟩)], .iface 205 (.agg #[.pointer (some ⟨1, 32, none⟩)])]).run Tryz.prog w = .ok (.bool false) w := by kernel_rfl
theorem assignable49 (w : World) : (ReflectliteType.relation "AssignableTo" ReflectliteType.assignableTo #[.agg #[.pointer (some ⟨1, 49, none⟩)], .iface 205 (.agg #[.pointer (some ⟨1, 32, none⟩)])]).run Tryz.prog w = .ok (.bool false) w := by kernel_rfl
theorem valueOf32 (e : Int) (w : World) : (ReflectliteValue.unpack (.iface 32 (.int .i64 e))).run Tryz.prog w
    = .ok (.agg #[.pointer (some ⟨1, 32, none⟩), .pointer (some ⟨w.heap.size, 0, none⟩), .int .u64 130]) (w.alloc (.cells #[.int .i64 e] 32)) := by kernel_rfl
theorem elemOf111 (w : World) : (Rtype.elem? 111).run Tryz.prog w = .ok (some 32) w := by kernel_rfl
theorem mk32 (p : Addr) (w : World) : (ReflectliteValue.mk 32 p ReflectliteValue.flagAddr).run Tryz.prog w = .ok (.agg #[.pointer (some ⟨1, 32, none⟩), .pointer (some p), .int .u64 386]) w := by kernel_rfl
theorem elemV111 (a p : Addr) (W : World) (ha : W.cell? a = some (.pointer (some p))) :
    (ReflectliteValue.method (ReflectliteValue.valueError "reflectlite.Value.Elem" 0) ReflectliteValue.elem #[.agg #[.pointer (some ⟨1, 111, none⟩), .pointer (some a), .int .u64 150]]).run Tryz.prog W
      = .ok (.agg #[.pointer (some ⟨1, 32, none⟩), .pointer (some p), .int .u64 386]) W := by
  rw [rlm]
  simp only [Sem.run_bind, parts111, Result.andThen]
  simp [ReflectliteValue.elem, loadVar, isAgg, underlying, Tryz.underlying111, ha, Result.andThen, elemOf111, mk32]
theorem rls (v x : Value) : ReflectliteValue.set #[v, x] = (do
    let (some (dst, a, fl), some (src, b, _)) := (← ReflectliteValue.parts v, ← ReflectliteValue.parts x)
      | unsupported (.noEntry "extern/(internal/reflectlite.Value).Set.zeroValue")
    if fl / ReflectliteValue.flagAddr % 2 == 0 then unsupported (.noEntry "extern/(internal/reflectlite.Value).Set.unaddressable")
    let val ← loadVar src b
    if ← Rtype.directlyAssignable dst src then storeVar dst a val
    else if ← Rtype.implements dst src then
      if (← Rtype.kind src) == 20 then
        match val with
        | .nilIface => unsupported (.noEntry "extern/reflectlite: a nil value of one interface type handed on as a value of another")
        | _ => storeVar dst a val
      else storeVar dst a (.iface src val)
    else panicString ("reflectlite.Set: value of type " ++ (← Rtype.spelt src) ++ " is not assignable to type " ++ (← Rtype.spelt dst))
    pure (.tuple #[])) := rfl
theorem parts32a (a : Addr) (w : World) : (ReflectliteValue.parts (.agg #[.pointer (some ⟨1, 32, none⟩), .pointer (some a), .int .u64 386])).run Tryz.prog w = .ok (some (32, a, 386)) w := by kernel_rfl
theorem parts32 (a : Addr) (w : World) : (ReflectliteValue.parts (.agg #[.pointer (some ⟨1, 32, none⟩), .pointer (some a), .int .u64 130])).run Tryz.prog w = .ok (some (32, a, 130)) w := by kernel_rfl
theorem direct32 (w : World) : (Rtype.directlyAssignable 32 32).run Tryz.prog w = .ok true w := by kernel_rfl
theorem set32 (ta b : Addr) (e : Int) (old : Value) (W : World) (hb : W.cell? b = some (.int .i64 e)) (ht : W.cell? ta = some old) (hf : W.frozen? ta = false) :
    (ReflectliteValue.set #[.agg #[.pointer (some ⟨1, 32, none⟩), .pointer (some ta), .int .u64 386], .agg #[.pointer (some ⟨1, 32, none⟩), .pointer (some b), .int .u64 130]]).run Tryz.prog W
      = .ok (.tuple #[]) (W.setCell ta (.int .i64 e)) := by
  rw [rls]
  simp only [Sem.run_bind, parts32a, parts32, Result.andThen]
  simp [ReflectliteValue.flagAddr, loadVar, isAgg, underlying, Tryz.underlying32, hb, Result.andThen, direct32, storeVar, Value.cells, storeCells, Addr.add]
  rw [run_store Tryz.prog W ta _ _ (by rfl)]
  simp [ht, hf]

theorem noAs46 (v : Value) (xT : TypeId) (w : World) : (Instr.typeAssert (.iface 46 v) xT 210 true).run Tryz.prog w = .ok (.tuple #[.nilIface, .bool false]) w := run_typeAssert_lacksB Tryz.underlying210 (by kernel_rfl) (by kernel_rfl) v xT w
theorem noAs49 (v : Value) (xT : TypeId) (w : World) : (Instr.typeAssert (.iface 49 v) xT 210 true).run Tryz.prog w = .ok (.tuple #[.nilIface, .bool false]) w := run_typeAssert_lacksB Tryz.underlying210 (by kernel_rfl) (by kernel_rfl) v xT w
theorem noUn46 (v : Value) (xT : TypeId) (w : World) : (Instr.typeAssert (.iface 46 v) xT 213 true).run Tryz.prog w = .ok (.tuple #[.nilIface, .bool false]) w := run_typeAssert_lacksB Tryz.underlying213 (by kernel_rfl) (by kernel_rfl) v xT w
theorem noUns46 (v : Value) (xT : TypeId) (w : World) : (Instr.typeAssert (.iface 46 v) xT 215 true).run Tryz.prog w = .ok (.tuple #[.nilIface, .bool false]) w := run_typeAssert_lacksB Tryz.underlying215 (by kernel_rfl) (by kernel_rfl) v xT w
theorem un49 (v : Value) (xT : TypeId) (w : World) : (Instr.typeAssert (.iface 49 v) xT 213 true).run Tryz.prog w = .ok (.tuple #[.iface 49 v, .bool true]) w := run_typeAssert_hasB Tryz.underlying213 (by kernel_rfl) v xT w
theorem methodUnwrap (h : Value) (w : World) : (Go.method 373 49 h "Unwrap").run Tryz.prog w = .ok (171, h) w := by kernel_rfl


/-- A chain of errors in memory: a number (or none) in d others. -/
def ErrW (w : World) (o : Bool) (e : Int) : Nat → Value → Prop
  | 0, v => v = cond o (.iface 46 (.agg #[])) (.iface 32 (.int .i64 e))
  | d + 1, v => ∃ b p u, v = .iface 49 (.pointer (some ⟨b, p, none⟩)) ∧ w.cell? ⟨b, p + 2, none⟩ = some u ∧ ErrW w o e d u

theorem ErrW.iface {w : World} {o : Bool} {e : Int} : ∀ {d : Nat} {v : Value}, ErrW w o e d v → ∃ t u, v = .iface t u
  | 0, v, h => by
    have h : v = cond o (.iface 46 (.agg #[])) (.iface 32 (.int .i64 e)) := h
    cases o
    · exact ⟨_, _, h⟩
    · exact ⟨_, _, h⟩
  | _ + 1, _, ⟨_, _, _, h, _⟩ => ⟨_, _, h⟩

theorem ErrW.alloc {w : World} {o : Bool} {e : Int} {x : Obj} : ∀ {d : Nat} {v : Value}, ErrW w o e d v → ErrW (w.alloc x) o e d v
  | 0, _, h => h
  | _ + 1, _, ⟨b, p, u, h1, h2, h3⟩ => ⟨b, p, u, h1, by rw [World.cell?_alloc_lt _ _ _ (World.block_lt_of_cell? _ _ h2)]; exact h2, ErrW.alloc h3⟩

theorem unwrap_ok (w : World) (b p : Nat) (u : Value) (h : w.cell? ⟨b, p + 2, none⟩ = some u) :
    Calls Tryz.prog 171 #[.pointer (some ⟨b, p, none⟩)] w fun ev w' => ev = .returned u ∧ w' = w := by
  go_enter Tryz.func171, Tryz.ntmps171
  go_wp2
  go_ret
  exact ⟨rfl, rfl⟩


def valV (a : Addr) : Obj := .cells #[.pointer (some ⟨1, 111, none⟩), .pointer (some a), .int .u64 150] 158

set_option maxHeartbeats 4000000 in
theorem as_ok (w : World) (o : Bool) (e : Int) (d : Nat) (v : Value) (t a : Addr) (old : Value) (hv : ErrW w o e d v) (ha : w.cell? a = some (.pointer (some t))) (ht : w.cell? t = some old) (hf : w.frozen? t = false) :
    Calls Tryz.prog 80 #[v, .iface 111 (.pointer (some t)), .agg #[.pointer (some ⟨1, 111, none⟩), .pointer (some a), .int .u64 150], .iface 205 (.agg #[.pointer (some ⟨1, 32, none⟩)])] w fun ev w' =>
      (o = false ∧ ev = .returned (.bool true) ∧ w' = ((w.alloc (valV a)).alloc (.cells #[.int .i64 e] 32)).setCell t (.int .i64 e)) ∨ (o = true ∧ ev = .returned (.bool false) ∧ w' = w.alloc (valV a)) := by
  have h77 := @run_callFunc_extern Tryz.prog 77 _ (fun args => ReflectliteValue.unpack (args.getD 0 (.tuple #[]))) Tryz.func77 (by kernel_rfl) (by kernel_rfl) (by kernel_rfl) (by kernel_rfl)
  have h121 := @run_callFunc_extern Tryz.prog 121 _ ReflectliteType.typeOf Tryz.func121 (by kernel_rfl) (by kernel_rfl) (by kernel_rfl) (by kernel_rfl)
  have h176 := @run_callFunc_extern Tryz.prog 176 _ (ReflectliteType.relation "AssignableTo" ReflectliteType.assignableTo) Tryz.func176 (by kernel_rfl) (by kernel_rfl) (by kernel_rfl) (by kernel_rfl)
  have h122 := @run_callFunc_extern Tryz.prog 122 _ (ReflectliteValue.method (ReflectliteValue.valueError "reflectlite.Value.Elem" 0) ReflectliteValue.elem) Tryz.func122 (by kernel_rfl) (by kernel_rfl) (by kernel_rfl) (by kernel_rfl)
  have h123 := @run_callFunc_extern Tryz.prog 123 _ ReflectliteValue.set Tryz.func123 (by kernel_rfl) (by kernel_rfl) (by kernel_rfl) (by kernel_rfl)
  have mA := methodAssignableTo
  have htl : t.block < w.heap.size := World.block_lt_of_cell? _ _ ht
  have hal : a.block < w.heap.size := World.block_lt_of_cell? _ _ ha
  go_enter Tryz.func80, Tryz.ntmps80
  go_wp2
  go_loopg [0] d (fun k p wr => wr = w.alloc (valV a) ∧ ErrW (w.alloc (valV a)) o e k p)
  case atStart => exact ⟨rfl, hv.alloc⟩
  case round =>
    obtain ⟨rfl, hp⟩ := hrel
    have hsz : (w.alloc (valV a)).heap.size = w.heap.size + 1 := by simp
    cases gk with
    | zero =>
      have hp : _ = cond o (Value.iface 46 (.agg #[])) (Value.iface 32 (.int .i64 e)) := hp
      cases o with
      | false =>
        simp only [cond_false] at hp
        subst hp
        have tO := typeOf32
        have a32 := assignable32
        have v32 := valueOf32 e
        have el := elemV111 a t (w.alloc (valV a)) (by rw [World.cell?_alloc_lt _ _ _ hal]; exact ha)
        have st := set32 t ⟨w.heap.size + 1, 0, none⟩ e old ((w.alloc (valV a)).alloc (.cells #[.int .i64 e] 32)) (by rw [World.cell?_alloc_at _ _ _ _ (by simp)]; rfl)
          (by rw [World.cell?_alloc_lt _ _ t (by simp; omega), World.cell?_alloc_lt _ _ t htl]; exact ht) (by rw [World.frozen?_alloc_old _ _ t (by simp; omega), World.frozen?_alloc_old _ _ t (Nat.ne_of_lt htl)]; exact hf)
        unfold valV at *
        go_wp2
        go_ret
        exact ⟨rfl, rfl⟩
      | true =>
        simp only [cond_true] at hp
        subst hp
        have tO := typeOf46
        have a46 := assignable46
        have n1 := noAs46
        have n2 := noUn46
        have n3 := noUns46
        unfold valV at *
        go_wp2
        go_ret
        exact ⟨rfl, rfl⟩
    | succ k =>
      obtain ⟨b, p, u, rfl, hu, hk⟩ := hp
      obtain ⟨t0, u0, hi⟩ := hk.iface
      have A : Aside (ErrW (w.alloc (valV a)) o e k u) := hk
      subst hi
      have tO := typeOf49
      have a49 := assignable49
      have n1 := noAs49
      have n2 := un49
      have mU := methodUnwrap
      clear hk hv
      go_wp2_with (go_at_call 171; refine (unwrap_ok _ b p _ hu).mono ?_; rintro ev w' ⟨rfl, rfl⟩)
      go_roundg k
      case measure => omega
      case rel => exact ⟨rfl, A.out⟩


def asW (w : World) (t : Addr) : World := (w.alloc (.cells #[.pointer (some t)] 111)).alloc (valV ⟨w.heap.size, 0, none⟩)

set_option maxHeartbeats 4000000 in
theorem as_whole (w : World) (o : Bool) (e : Int) (d : Nat) (v : Value) (t : Addr) (old : Value) (hv : ErrW w o e d v) (hg : w.cell? ⟨0, 0, none⟩ = some (.iface 205 (.agg #[.pointer (some ⟨1, 48, none⟩)]))) (ht : w.cell? t = some old) (hf : w.frozen? t = false) :
    Calls Tryz.prog 46 #[v, .iface 111 (.pointer (some t))] w fun ev w' =>
      (o = false ∧ ev = .returned (.bool true) ∧ w' = (((asW w t).alloc (valV ⟨w.heap.size, 0, none⟩)).alloc (.cells #[.int .i64 e] 32)).setCell t (.int .i64 e)) ∨ (o = true ∧ ev = .returned (.bool false) ∧ w' = (asW w t).alloc (valV ⟨w.heap.size, 0, none⟩)) := by
  have h77 := @run_callFunc_extern Tryz.prog 77 _ (fun args => ReflectliteValue.unpack (args.getD 0 (.tuple #[]))) Tryz.func77 (by kernel_rfl) (by kernel_rfl) (by kernel_rfl) (by kernel_rfl)
  have h78 := @run_callFunc_extern Tryz.prog 78 _ (ReflectliteValue.methodAny (ReflectliteValue.valueError "reflectlite.Value.Type" 0) (fun t _ _ _ => ReflectliteType.toType t)) Tryz.func78 (by kernel_rfl) (by kernel_rfl) (by kernel_rfl) (by kernel_rfl)
  have h79 := @run_callFunc_extern Tryz.prog 79 _ (ReflectliteValue.method (ReflectliteValue.valueError "reflectlite.Value.IsNil" 0) ReflectliteValue.isNil) Tryz.func79 (by kernel_rfl) (by kernel_rfl) (by kernel_rfl) (by kernel_rfl)
  have h165 := @run_callFunc_extern Tryz.prog 165 _ (ReflectliteType.abiMethod fun t => do pure (.int .u8 (← Rtype.kind t))) Tryz.func165 (by kernel_rfl) (by kernel_rfl) (by kernel_rfl) (by kernel_rfl)
  have h178 := @run_callFunc_extern Tryz.prog 178 _ (ReflectliteType.method ReflectliteType.elem) Tryz.func178 (by kernel_rfl) (by kernel_rfl) (by kernel_rfl) (by kernel_rfl)
  have h179 := @run_callFunc_extern Tryz.prog 179 _ (ReflectliteType.relation "Implements" ReflectliteType.implements_) Tryz.func179 (by kernel_rfl) (by kernel_rfl) (by kernel_rfl) (by kernel_rfl)
  have f77 := valueOf111
  have f78 := type111
  have mK := methodKind
  have mE := methodElem
  have mI := methodImplements
  have k111 := kind111
  have k32 := kind32
  have e111 := elem111
  have i32 := implements32
  have htl : t.block < w.heap.size := World.block_lt_of_cell? _ _ ht
  have hlt : 0 < w.heap.size := Nat.lt_of_le_of_lt (Nat.zero_le _) htl
  have n79 := isNil111 ⟨w.heap.size, 0, none⟩ t (asW w t) (by unfold asW; rw [World.cell?_alloc_lt _ _ ⟨w.heap.size, 0, none⟩ (by simp)]; simp)
  have hg2 : (asW w t).cell? ⟨0, 0, none⟩ = some (.iface 205 (.agg #[.pointer (some ⟨1, 48, none⟩)])) := by
    unfold asW
    rw [World.cell?_alloc_lt _ _ ⟨0, 0, none⟩ (by simp), World.cell?_alloc_lt _ _ ⟨0, 0, none⟩ hlt]; exact hg
  have hx := as_ok (asW w t) o e d v t ⟨w.heap.size, 0, none⟩ old hv.alloc.alloc (by unfold asW; rw [World.cell?_alloc_lt _ _ ⟨w.heap.size, 0, none⟩ (by simp)]; simp)
    (by unfold asW; rw [World.cell?_alloc_lt _ _ t (by simp; omega), World.cell?_alloc_lt _ _ t htl]; exact ht) (by unfold asW; rw [World.frozen?_alloc_old _ _ t (by simp; omega), World.frozen?_alloc_old _ _ t (Nat.ne_of_lt htl)]; exact hf)
  obtain ⟨t0, u0, hi⟩ := hv.iface
  subst hi
  clear hv
  unfold asW valV at *
  go_enter Tryz.func46, Tryz.ntmps46
  go_wp2_with (go_at_call 80; refine hx.mono ?_; rintro ev w' (⟨rfl, rfl, rfl⟩ | ⟨rfl, rfl, rfl⟩))
  all_goals (go_ret; exact ⟨rfl, rfl⟩)

theorem below_asW (w : World) (t : Addr) : Below w.heap.size w ((asW w t).alloc (valV ⟨w.heap.size, 0, none⟩)) :=
  (((Below.refl _ w).alloc (Nat.le_refl _) _).alloc (by simp) _).alloc (by simp [asW]; omega) _

set_option maxHeartbeats 4000000 in
/-- nfs.StatusOf of a chain that ends in a number: the number's status. -/
theorem statusOf_num (w : World) (e : Int) (d : Nat) (v : Value) (y : Int) (hv : ErrW w false e d v) (hg : w.cell? ⟨0, 0, none⟩ = some (.iface 205 (.agg #[.pointer (some ⟨1, 48, none⟩)])))
    (hS : ∀ w', Below w.heap.size w w' → Calls Tryz.prog 20 #[.int .i64 e] w' fun ev w'' => ev = .returned (.int .u32 y) ∧ Below w'.heap.size w' w'') :
    Calls Tryz.prog 22 #[v] w fun ev w' => ev = .returned (.int .u32 y) ∧ Below w.heap.size w w' := by
  have hlt : 0 < w.heap.size := World.block_lt_of_cell? _ _ hg
  have hx := as_whole (w.alloc (.cells #[.int .i64 0] 32)) false e d v ⟨w.heap.size, 0, none⟩ (.int .i64 0) hv.alloc (by rw [World.cell?_alloc_lt _ _ ⟨0, 0, none⟩ hlt]; exact hg) (by simp) (by simp)
  have hB1 : Below w.heap.size w ((((asW (w.alloc (.cells #[.int .i64 0] 32)) ⟨w.heap.size, 0, none⟩).alloc (valV ⟨(w.alloc (.cells #[.int .i64 0] 32)).heap.size, 0, none⟩)).alloc (.cells #[.int .i64 e] 32)).setCell ⟨w.heap.size, 0, none⟩ (.int .i64 e)) := by
    have h1 : Below w.heap.size w (w.alloc (.cells #[.int .i64 0] 32)) := (Below.refl _ w).alloc (Nat.le_refl _) _
    have h2 := (below_asW (w.alloc (.cells #[.int .i64 0] 32)) ⟨w.heap.size, 0, none⟩).mono (B' := w.heap.size) (by simp)
    exact ((h1.trans h2).alloc (by simp [asW]; omega) _).setCell (p := ⟨w.heap.size, 0, none⟩) (Nat.le_refl _) _
  have hc : ((((asW (w.alloc (.cells #[.int .i64 0] 32)) ⟨w.heap.size, 0, none⟩).alloc (valV ⟨(w.alloc (.cells #[.int .i64 0] 32)).heap.size, 0, none⟩)).alloc (.cells #[.int .i64 e] 32)).setCell ⟨w.heap.size, 0, none⟩ (.int .i64 e)).cell? ⟨w.heap.size, 0, none⟩ = some (.int .i64 e) := by
    refine World.cell?_setCell_same' _ _ _ ?_
    unfold asW
    rw [World.cell?_alloc_lt _ _ ⟨w.heap.size, 0, none⟩ (by simp; omega), World.cell?_alloc_lt _ _ ⟨w.heap.size, 0, none⟩ (by simp; omega), World.cell?_alloc_lt _ _ ⟨w.heap.size, 0, none⟩ (by simp; omega), World.cell?_alloc_lt _ _ ⟨w.heap.size, 0, none⟩ (by simp)]
    simp
  have hs := hS _ hB1
  generalize hW : (((asW (w.alloc (.cells #[.int .i64 0] 32)) ⟨w.heap.size, 0, none⟩).alloc (valV ⟨(w.alloc (.cells #[.int .i64 0] 32)).heap.size, 0, none⟩)).alloc (.cells #[.int .i64 e] 32)).setCell ⟨w.heap.size, 0, none⟩ (.int .i64 e) = W at hx hB1 hc hs
  obtain ⟨t0, u0, hi⟩ := hv.iface
  subst hi
  have A : Aside (Below w.heap.size w W) := hB1
  clear hv hS hW hB1
  go_enter Tryz.func22, Tryz.ntmps22
  go_wp2_with (first | (go_at_call 46; refine hx.mono ?_; rintro ev w' (⟨_, rfl, rfl⟩ | ⟨h, _, _⟩); rotate_left; cases h) | (go_at_call 20; refine hs.mono ?_; rintro ev w' ⟨rfl, hB⟩))
  go_ret
  exact ⟨rfl, A.out.trans (hB.mono A.out.size)⟩

set_option maxHeartbeats 4000000 in
/-- .. of a chain that ends in no number. -/
theorem statusOf_odd (w : World) (e : Int) (d : Nat) (v : Value) (hv : ErrW w true e d v) (hg : w.cell? ⟨0, 0, none⟩ = some (.iface 205 (.agg #[.pointer (some ⟨1, 48, none⟩)]))) :
    Calls Tryz.prog 22 #[v] w fun ev w' => ev = .returned (.int .u32 10006) ∧ Below w.heap.size w w' := by
  have hlt : 0 < w.heap.size := World.block_lt_of_cell? _ _ hg
  have hx := as_whole (w.alloc (.cells #[.int .i64 0] 32)) true e d v ⟨w.heap.size, 0, none⟩ (.int .i64 0) hv.alloc (by rw [World.cell?_alloc_lt _ _ ⟨0, 0, none⟩ hlt]; exact hg) (by simp) (by simp)
  have hB1 : Below w.heap.size w ((asW (w.alloc (.cells #[.int .i64 0] 32)) ⟨w.heap.size, 0, none⟩).alloc (valV ⟨(w.alloc (.cells #[.int .i64 0] 32)).heap.size, 0, none⟩)) := by
    have h1 : Below w.heap.size w (w.alloc (.cells #[.int .i64 0] 32)) := (Below.refl _ w).alloc (Nat.le_refl _) _
    exact h1.trans ((below_asW (w.alloc (.cells #[.int .i64 0] 32)) ⟨w.heap.size, 0, none⟩).mono (B' := w.heap.size) (by simp))
  generalize hW : (asW (w.alloc (.cells #[.int .i64 0] 32)) ⟨w.heap.size, 0, none⟩).alloc (valV ⟨(w.alloc (.cells #[.int .i64 0] 32)).heap.size, 0, none⟩) = W at hx hB1
  obtain ⟨t0, u0, hi⟩ := hv.iface
  subst hi
  have A : Aside (Below w.heap.size w W) := hB1
  clear hv hW hB1
  go_enter Tryz.func22, Tryz.ntmps22
  go_wp2_with (go_at_call 46; refine hx.mono ?_; rintro ev w' (⟨h, _, _⟩ | ⟨_, rfl, rfl⟩); cases h)
  go_ret
  exact ⟨rfl, A.out⟩

/-- .. of no error. -/
theorem statusOf_nil (w : World) : Calls Tryz.prog 22 #[.nilIface] w fun ev w' => ev = .returned (.int .u32 0) ∧ Below w.heap.size w w' := by
  go_enter Tryz.func22, Tryz.ntmps22
  go_wp2
  go_ret
  exact ⟨rfl, Below.refl _ _⟩

end Go.Rf.W.As
