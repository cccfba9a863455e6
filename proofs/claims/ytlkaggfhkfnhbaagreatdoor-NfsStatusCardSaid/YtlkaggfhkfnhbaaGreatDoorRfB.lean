/-
  That the pure machine is right about regions of operations, in the order of the text and in drawn orders.
-/
import Derived.Test.YtlkaggfhkfnhbaaGreatDoorRfA
import Derived.Laws.Tables
set_option linter.unusedVariables false
set_option linter.unusedSimpArgs false
set_option linter.unusedSectionVars false
namespace Go.Rf
open Go

section
variable {P : Program} {Γ : Tab} {rom : Rom} {ρ : RM} {w w' : World} {hg : Nat → Option Seg} {lk : Nat → Bool} {nid : Nat}

/-- Blocks laid into a new row: what holds behind it. -/
theorem aft_new (hR : Rel rom ρ hg w) (hL : Lnk ρ hg lk) (hgr : w.grownBy w' none) (L : List (Seg × Bool × List Value × Nat))
    (hf : ∀ id, nid ≤ id → id < nid + L.length → hg id = none ∧ ρ id = none) (hs : ∀ x ∈ L, SegRel rom ρ x.1 x.2.2.1) (hc : cellsOk w' w.heap.size 0 L)
    (ht : ∀ j, j < sumE L → (w'.cell? ⟨w.heap.size, j, none⟩).isSome = true ∧ frz w' w.heap.size = false) (hfl : flagsOk L) :
    Aft rom ρ hg w rom (placeN ρ w.heap.size nid 0 L) (hgN hg nid (newOf L)) (lkN lk nid (newOf L)) w' nid L.length := by
  have hR' := hR.grown hgr
  have hno : ∀ o', ¬ Own hg ρ w.heap.size o' ∧ rom w.heap.size o' = none := fun o' =>
    ⟨fun h => absurd (hR.lt h) (by omega), by cases h : rom w.heap.size o' with | none => rfl | some v => exact absurd (hR.rlt h) (by omega)⟩
  refine ⟨hR'.addN _ L nid 0 hf hs hc (fun j hj => by simpa using ht j hj) (fun o' _ => hno o'), hL.addN _ L nid 0 hf hfl,
    Tr.grown hgr (placeN_ext ρ _ L nid 0 (fun i h1 h2 => (hf i h1 h2).2)) (fun b o ho hb => ?_), fun id h1 h2 => placeN_none ρ _ L nid 0 id h1 h2⟩
  rcases own_placeN L nid 0 ho with h | ⟨h, _⟩
  · exact h
  · omega

theorem widths_head {g : Seg} {s : List Seg} {n : Nat} (h : widths (g :: s) = some n) : ∃ m, g.width = some m := by
  unfold widths at h
  split at h <;> cases h
  rename_i a b ha hb
  exact ⟨a, ha⟩

/-- A row of segments of set widths, as new blocks. -/
theorem mkL {b : Nat} : ∀ (s : List Seg) (o : Nat) {cs : List Value} {n : Nat}, widths s = some n → LRel (SegRel rom ρ) s cs → (∀ j v, cs[j]? = some v → w'.cell? ⟨b, o + j, none⟩ = some v) →
    ∃ L, newOf L = linked s ∧ (∀ x ∈ L, SegRel rom ρ x.1 x.2.2.1) ∧ cellsOk w' b o L ∧ sumE L = cs.length ∧ flagsOk L ∧ L.length = s.length ∧ (s ≠ [] → L ≠ [])
  | [], o, cs, n, _, h, _ => by
    simp only [LRel] at h
    subst h
    exact ⟨[], rfl, by simp, trivial, rfl, trivial, rfl, fun h => absurd rfl h⟩
  | [g], o, cs, n, hw, ⟨c, d, e, h1, h2⟩, hc => by
    simp only [LRel] at h2
    subst h2
    simp at e
    subst e
    exact ⟨[(g, false, cs, cs.length)], rfl, by simpa using h1, ⟨⟨Seg.flat_of_width (widths_head hw).choose_spec, Nat.le_refl _⟩, hc, trivial⟩, by simp [sumE], ⟨by simp, trivial⟩, rfl, by simp⟩
  | g :: g' :: r, o, cs, n, hw, ⟨c, d, e, h1, h2⟩, hc => by
    unfold widths at hw
    split at hw <;> cases hw
    rename_i a b' ha hb
    have hlen := SegRel.width h1 ha
    obtain ⟨L, q1, q2, q3, q4, q5, q6, q7⟩ := mkL (g' :: r) (o + c.length) hb h2 (fun j v hj => by
      have := hc (c.length + j) v (by rw [e, List.getElem?_append_right (by omega)]; rw [← hj]; congr 1; omega)
      rwa [← Nat.add_assoc] at this)
    refine ⟨(g, true, c, c.length) :: L, by simp [newOf, linked] at q1 ⊢; exact q1, ?_, ⟨⟨Seg.flat_of_width ha, Nat.le_refl _⟩, fun j v hj => ?_, q3⟩, by simp [sumE, q4, e], ⟨fun _ => ⟨by rw [ha, hlen], q7 (by simp)⟩, q5⟩, by simp [q6], by simp⟩
    · intro x hx
      rcases List.mem_cons.1 hx with hx | hx
      · subst hx; exact h1
      · exact q2 x hx
    · exact hc j v (by rw [e, List.getElem?_append_left (List.getElem?_eq_some_iff.1 hj).1]; exact hj)

theorem newOf_length (L : List (Seg × Bool × List Value × Nat)) : (newOf L).length = L.length := by simp [newOf]

theorem grown_alloc (w : World) (o : Obj) : w.grownBy (w.alloc o) none := World.grownBy_alloc w o none

theorem cells_alloc0 (w : World) (c : List Value) (t : TypeId) : ∀ j v, c[j]? = some v → (w.alloc (.cells c.toArray t)).cell? ⟨w.heap.size, 0 + j, none⟩ = some v := by
  intro j v h
  rw [Nat.zero_add, World.cell?_alloc_new]
  simpa using h

theorem alloc_there (w : World) (c : Array Value) (t : TypeId) : ∀ j, j < c.size → ((w.alloc (.cells c t)).cell? ⟨w.heap.size, j, none⟩).isSome = true ∧ frz (w.alloc (.cells c t)) w.heap.size = false := by
  intro j hj
  rw [World.cell?_alloc_new, frz_alloc_new]
  simp [hj]

/-- A variable of known cells: new blocks, and its address. -/
theorem box_aft (hR : Rel rom ρ hg w) (hL : Lnk ρ hg lk) {s : List Seg} {cs : List Value} {n : Nat} (t : TypeId) (hw : widths s = some n) (hcs : LRel (SegRel rom ρ) s cs) (hne : s ≠ [])
    (hf : ∀ id, nid ≤ id → id < nid + s.length → hg id = none ∧ ρ id = none) :
    ∃ ρ', CRel rom ρ' (.ptr ⟨nid, 0, 0, 0⟩) (.pointer (some ⟨w.heap.size, 0, none⟩)) ∧
      Aft rom ρ hg w rom ρ' (hgN hg nid (linked s)) (lkN lk nid (linked s)) (w.alloc (.cells cs.toArray t)) nid s.length := by
  obtain ⟨L, q1, q2, q3, q4, q5, q6, q7⟩ := mkL (b := w.heap.size) (w' := w.alloc (.cells cs.toArray t)) s 0 hw hcs (cells_alloc0 w cs t)
  have := aft_new (nid := nid) hR hL (grown_alloc w (.cells cs.toArray t)) L (by rw [q6]; exact hf) q2 q3 (fun j hj => alloc_there w _ _ j (by rw [q4] at hj; simpa using hj)) q5
  rw [q1, q6] at this
  refine ⟨_, ?_, this⟩
  cases L with
  | nil => exact absurd rfl (q7 hne)
  | cons x L =>
    obtain ⟨g, f, c, e⟩ := x
    exact ⟨.mkP w.heap.size 0 e (gnum g), by simp [placeN], by simp⟩

theorem linked_length : ∀ (s : List Seg), (linked s).length = s.length
  | [] => rfl
  | [_] => rfl
  | _ :: g :: r => by simp [linked, linked_length (g :: r)]

theorem boxA_ok {o : Oper} {a : Act} (hR : Rel rom ρ hg w) (hL : Lnk ρ hg lk) {s : List Seg} {cs : List Value} {t : TypeId} (hw : (widths s).isSome = true) (hcs : LRel (SegRel rom ρ) s cs) (hne : s ≠ [])
    (hrun : (execOp a.eval o).run P w = .ok (.value (.pointer (some ⟨w.heap.size, 0, none⟩))) (w.alloc (.cells cs.toArray t))) : Does P o a w rom ρ hg lk nid (boxA nid s) := by
  refine does_run fun x hx hc hf => ?_
  obtain ⟨n, hn⟩ := Option.isSome_iff_exists.1 hw
  simp only [boxA, OR.eff] at hf ⊢
  rw [linked_length] at hf
  obtain ⟨ρ', h1, h2⟩ := box_aft (nid := nid) hR hL t hn hcs hne hf
  exact ⟨_, _, rom, ρ', .inl hrun, h1, by rw [linked_length]; exact h2⟩

/-- One new block of elements, with more places behind them. -/
theorem arr_aft (hR : Rel rom ρ hg w) (hL : Lnk ρ hg lk) {k : EK} {l : List k.T} {cs : List Value} (hcs : LRel (EK.Rel rom k) l cs) (hgr : w.grownBy w' none) {ext : Nat} (hle : cs.length ≤ ext)
    (hc : ∀ j v, cs[j]? = some v → w'.cell? ⟨w.heap.size, j, none⟩ = some v)
    (ht : ∀ j, j < ext → (w'.cell? ⟨w.heap.size, j, none⟩).isSome = true ∧ frz w' w.heap.size = false)
    (hf : hg nid = none ∧ ρ nid = none) :
    Aft rom ρ hg w rom (setF ρ nid (some (.mkP w.heap.size 0 ext l.length))) (setF hg nid (some (.arr k none l))) (setF lk nid false) w' nid 1 := by
  have := aft_new (nid := nid) hR hL hgr [(.arr k none l, false, cs, ext)] (fun id h1 h2 => by have : id = nid := (by simp at h2; omega); subst this; exact hf)
    (fun x hx => by simp at hx; subst hx; exact ⟨by simp, hcs⟩) ⟨⟨rfl, hle⟩, fun j v hj => by simpa using hc j v hj, trivial⟩ (fun j hj => ht j (by simpa [sumE] using hj)) ⟨by simp, trivial⟩
  simpa [placeN, newOf, hgN, lkN, gnum] using this

/-- An empty slice's block: nowhere. -/
theorem empty_aft (hR : Rel rom ρ hg w) (hL : Lnk ρ hg lk) (k : EK) (hf : hg nid = none ∧ ρ nid = none) :
    Aft rom ρ hg w rom (setF ρ nid (some (.mkP w.heap.size 0 0 0))) (setF hg nid (some (.arr k none []))) (setF lk nid false) w nid 1 :=
  arr_aft (l := ([] : List k.T)) (cs := []) hR hL rfl ⟨rfl, rfl, rfl, Nat.le_refl _, fun _ _ _ => rfl⟩ (by simp) (by simp) (by simp) hf

theorem slw_new {id esz b o ext n cap : Nat} {base : Option Addr} (hb : cap ≠ 0 → base = some ⟨b, o, none⟩) (hn : n ≤ cap) (he : cap * esz ≤ ext) :
    CRel rom (setF ρ id (some (.mkP b o ext n))) (.slw id esz) (.slice base n cap) :=
  ⟨.mkP b o ext n, base, cap, by simp, rfl, hb, hn, he⟩

/-! What is appended, copied, turned into a string -/

theorem ints_cells {k : IntKind} : ∀ (l : List Int), LRel (EK.Rel rom (.int k)) l (l.map (Value.int k))
  | [] => rfl
  | n :: l => ⟨[.int k n], _, rfl, rfl, ints_cells l⟩

/-- A slice's (a string's) content, as the model reads it. -/
def HasContent (P : Program) (rom : Rom) (w : World) (k : EK) (ys : List k.T) (v : Value) : Prop :=
  (Builtin.lenOf v).run P w = .ok ys.length w ∧ ∃ cs : List Value, LRel (EK.Rel rom k) ys cs ∧
    (∀ n, n ≤ ys.length → (Builtin.firstCells k.size n v).run P w = .ok (cs.take (n * k.size)).toArray w) ∧ (∀ v ∈ cs, v.oneCell' = true)

theorem run_loadN {a : Addr} {cs : List Value} (h : ∀ j v, cs[j]? = some v → w.cell? (a.add j) = some v) (n : Nat) (hn : n ≤ cs.length) : (loadCells a n).run P w = .ok (cs.take n).toArray w := by
  have := run_loadCells_list (P := P) w a (cs.take n) (fun j v hj => by
    rw [List.getElem?_take] at hj
    split at hj
    · exact h j v hj
    · cases hj)
  rwa [List.length_take, Nat.min_eq_left hn] at this

theorem hasContent_slice {k : EK} {ys : List k.T} {cs : List Value} {base : Option Addr} {cap : Nat} (hcs : LRel (EK.Rel rom k) ys cs)
    (h : ys = [] ∨ ∃ a, base = some a ∧ ∀ j v, cs[j]? = some v → w.cell? (a.add j) = some v) : HasContent P rom w k ys (.slice base ys.length cap) := by
  have hlen := LRel.length (fun x c hx => EK.Rel.length hx) hcs
  refine ⟨rfl, cs, hcs, fun n hn => ?_, LRel.all (fun x c hx => EK.Rel.one hx) hcs⟩
  rcases h with h | ⟨a, h, hc⟩
  · subst h
    simp at hlen
    subst hlen
    simp at hn
    subst hn
    cases base with
    | none => simp [Builtin.firstCells]
    | some a => simpa [Builtin.firstCells] using run_loadN (P := P) (w := w) (a := a) (cs := []) (by simp) 0 (by simp)
  · subst h
    simpa [Builtin.firstCells] using run_loadN (P := P) hc (n * k.size) (by rw [hlen]; exact Nat.mul_le_mul_right _ hn)

theorem content_ok (hR : Rel rom ρ hg w) {k : EK} {c : AC} {ys : List k.T} {chk : Bool} {ids : List Nat} {v : Value} (h : content hg k c = some (ys, chk, ids)) (hc : chk = true) (hv : CRel rom ρ c v) :
    HasContent P rom w k ys v := by
  subst hc
  unfold content at h
  split at h
  · cases h
    simp only [CRel] at hv
    subst hv
    exact hasContent_slice (ys := ([] : List k.T)) (cs := []) rfl (.inl rfl)
  · rename_i k' l
    split at h <;> try (cases h; done)
    rename_i he
    subst he
    cases h
    obtain ⟨base, cap, e1, e2, e3⟩ := hv
    simp only [List.cons.injEq, and_true] at e1
    subst e1
    rcases e3 with e3 | ⟨b, o, ds, e4, e5, e6⟩
    · subst e3; exact hasContent_slice (ys := ([] : List k'.T)) (cs := []) rfl (.inl rfl)
    · exact hasContent_slice e6 (.inr ⟨_, e4, fun j v hj => by rw [addr_add]; exact (hR.rm _ _ _ (e5 j v hj)).1⟩)
  · rename_i id esz
    split at h <;> try (cases h; done)
    rename_i k' l hid
    split at h <;> try (cases h; done)
    rename_i he
    subst he
    split at h <;> try (cases h; done)
    rename_i hes
    cases h
    obtain ⟨r0, base, cap, hr, e1, e2, e3, e4⟩ := hv
    obtain ⟨r', hr', hb⟩ := hR.blk id _ hid
    rw [hr] at hr'
    cases hr'
    have hlen := hb.len
    simp only [glen] at hlen
    obtain ⟨⟨cs, h1, h2, h3⟩, _, _⟩ := hb
    subst e1
    rw [← hlen]
    by_cases h0 : l = []
    · exact hasContent_slice h1.2 (.inl h0)
    · have : 0 < l.length := List.length_pos_iff.2 h0
      exact hasContent_slice h1.2 (.inr ⟨_, e2 (by omega), fun j v hj => by rw [addr_add]; exact h3 j v hj⟩)
  · rename_i id esz off len cp
    split at h <;> try (cases h; done)
    rename_i k' m l hid
    split at h <;> try (cases h; done)
    rename_i he
    subst he
    split at h <;> try (cases h; done)
    rename_i hes
    injection h with h
    injection h with h h2
    injection h2 with h2 h3
    subst h
    have hin : off + len ≤ l.length := by simpa using h2
    obtain ⟨r0, base, cap, hr, e1, e2, e3, e4, e5⟩ := hv
    obtain ⟨r', hr', ⟨cs, g1, g2, g3⟩, _, _⟩ := hR.blk id _ hid
    rw [hr] at hr'
    cases hr'
    have hsz : ∀ x c, EK.Rel rom k' x c → c.length = k'.size := fun x c hx => EK.Rel.length hx
    have hdl := LRel.length hsz g1.2
    obtain ⟨_, q2⟩ := LRel.take_drop hsz g1.2 off (by omega)
    obtain ⟨q3, _⟩ := LRel.take_drop hsz q2 len (by simp; omega)
    have hlen : ((l.drop off).take len).length = len := by simp; omega
    subst e1
    by_cases h0 : len = 0
    · have : (l.drop off).take len = [] := by subst h0; simp
      have hh := hasContent_slice (P := P) (w := w) (base := base) (cap := cap) q3 (.inl this)
      rwa [hlen] at hh
    · have hh := hasContent_slice (P := P) (w := w) (base := base) (cap := cap) q3 (.inr ⟨_, e2 (by omega), fun j v hj => by
        rw [addr_add]
        rw [List.getElem?_take] at hj
        split at hj <;> try (cases hj; done)
        rw [List.getElem?_drop] at hj
        have := g3 _ v hj
        rw [← this, hes, Nat.add_assoc]⟩)
      rwa [hlen] at hh
  · rename_i s
    split at h <;> try (cases h; done)
    rename_i he
    subst he
    cases h
    simp only [CRel] at hv
    subst hv
    have hl : LRel (EK.Rel rom (.int .u8)) (s.map fun b => (b.toNat : Int)) (s.map fun b => Value.int .u8 (b.toNat : Int)) := by
      clear hR
      induction s with
      | nil => rfl
      | cons b s ih => exact ⟨[.int .u8 b.toNat], _, rfl, rfl, ih⟩
    refine ⟨by simp [Builtin.lenOf, strV]; rfl, _, hl, fun n hn => ?_, LRel.all (fun x c hx => EK.Rel.one hx) hl⟩
    simp only [Builtin.firstCells, strV, Sem.run_pure]
    congr 1
    apply Array.ext'
    simp [ByteArray.data_extract, List.extract_eq_take_drop, EK.size, List.map_take]
  · -- a row
    rename_i id i
    split at h <;> try (cases h; done)
    rename_i k' l hid
    split at h <;> try (cases h; done)
    rename_i he
    subst he
    cases h
    obtain ⟨r, base, cap, e1, e2, hlt, hl, e3, e4, e5, hx⟩ := row_head hR hid hv
    rw [e3] at e2 ⊢
    have hrel : LRel (EK.Rel rom (.int k')) (l.getD i []) ((l.getD i []).map (Value.int k')) := ints_cells _
    by_cases h0 : l.getD i [] = []
    · exact hasContent_slice hrel (.inl h0)
    · have : 0 < (l.getD i []).length := List.length_pos_iff.2 h0
      obtain ⟨b, o, hb⟩ := e5 (by omega)
      subst hb
      refine hasContent_slice hrel (.inr ⟨_, rfl, fun j v hj => ?_⟩)
      rw [List.getElem?_map] at hj
      cases hn : (l.getD i [])[j]? with
      | none => rw [hn] at hj; cases hj
      | some n =>
        rw [hn] at hj
        cases hj
        rw [addr_add]
        exact (hx.row i _ hl b o _ cap e2 j n hn).1
  · cases h

end
end Go.Rf

set_option linter.unusedVariables false
set_option linter.unusedSimpArgs false
set_option linter.unusedSectionVars false
namespace Go.Rf
open Go

theorem growBy_le (n : Nat) : ∀ (r c : Nat), c ≤ n + (n + 768) / 4 → Builtin.growBy n r c ≤ n + (n + 768) / 4
  | 0, c, h => h
  | r + 1, c, h => by
    unfold Builtin.growBy
    split
    · exact h
    · exact growBy_le n r _ (by omega)

theorem nextslicecap_le {need cap : Nat} (h : cap < need) : Builtin.nextslicecap need cap ≤ 2 * need + 192 := by
  unfold Builtin.nextslicecap
  split
  · omega
  · split
    · omega
    · have := growBy_le need 4 cap (by omega)
      omega

theorem fits_ok {bytes n : Nat} (h : fits bytes n = true) : n * bytes ≤ 35184372088832 ∧ bytes ≤ 1073741824 ∧ 1 ≤ bytes ∧ n ≤ 35184372088832 := by
  simp only [fits, Bool.and_eq_true, decide_eq_true_eq] at h
  obtain ⟨⟨h1, h2⟩, h3⟩ := h
  refine ⟨h1, h2, h3, ?_⟩
  have : n * 1 ≤ n * bytes := Nat.mul_le_mul_left _ h3
  omega

section
variable {P : Program} {Γ : Tab} {rom : Rom} {ρ : RM} {w w' : World} {hg : Nat → Option Seg} {lk : Nat → Bool} {nid : Nat}

theorem zeroCells_size (z : Array Value) (n : Nat) : (Builtin.zeroCells z n).size = n * z.size := by simp [Builtin.zeroCells]

/-- append, where nothing is appended, or there is room. -/
theorem run_append_room {st xt ty e : TypeId} {d' : TypeDesc} (hst : P.underlying st = some (.slice e)) (hxt : P.underlying xt = some d') (hd' : ∀ k, d' ≠ .int k) {k : EK} {ys : List k.T} {v : Value} {sz : Nat}
    (hsz : (sizeOf e).run P w = .ok sz w) (hks : k.size = sz) {base : Option Addr} {sLen sCap : Nat} (hle : sLen + ys.length ≤ sCap)
    (hl : (Builtin.lenOf v).run P w = .ok ys.length w) {cs : List Value} (hf : (Builtin.firstCells k.size ys.length v).run P w = .ok cs.toArray w)
    (hs : (match base with | some a => storeCells (a.add (sLen * sz)) cs | none => pure ()).run P w = .ok () w') :
    (Builtin.append_ #[st, xt] ty #[.slice base sLen sCap, v]).run P w = .ok (.slice base (sLen + ys.length) sCap) w' := by
  subst hks
  unfold Builtin.append_
  have hm : (match d' with | .int _ => true | _ => false) = false := by cases d' <;> first | rfl | (rename_i k; exact absurd rfl (hd' k))
  cases base with
  | none =>
    simp at hs
    subst hs
    simp [run_underlying hst, run_underlying hxt, hsz, hl, hm, hle, hf]
  | some a =>
    simp at hs
    simp [run_underlying hst, run_underlying hxt, hsz, hl, hm, hle, hf, hs]

/-- append, into a new row. -/
theorem run_append_grow {st xt ty e : TypeId} {d' : TypeDesc} (hst : P.underlying st = some (.slice e)) (hxt : P.underlying xt = some d') (hd' : ∀ k, d' ≠ .int k) {k : EK} {ys : List k.T} {v : Value} {ti : TypeInfo} {z : Value}
    (hi : P.info? e = some ti) (hks : k.size = ti.size) (hz : ti.zero = some z) (hzl : z.cells.size = k.size) {base : Option Addr} {sLen sCap : Nat} (hgt : ¬ sLen + ys.length ≤ sCap)
    (hfit : fits ti.bytes (sLen + ys.length) = true) (hl : (Builtin.lenOf v).run P w = .ok ys.length w) {cs old : List Value}
    (hf : (Builtin.firstCells k.size ys.length v).run P w.drew = .ok cs.toArray w.drew) (ho : (Builtin.firstCells k.size sLen (.slice base sLen sCap)).run P w.drew = .ok old.toArray w.drew)
    (hcl : cs.length = ys.length * k.size) (hol : old.length = sLen * k.size) :
    ∃ (newCap : Nat) (c : Array Value), sLen + ys.length ≤ newCap ∧ c.size = newCap * k.size ∧ (∀ (j : Nat) (v : Value), (old ++ cs)[j]? = some v → c[j]? = some v) ∧
      (Builtin.append_ #[st, xt] ty #[.slice base sLen sCap, v]).run P w = .ok (.slice (some ⟨w.heap.size, 0, none⟩) (sLen + ys.length) newCap) (w.drew.alloc (.cells c e)) := by
  have hm : (match d' with | .int _ => true | _ => false) = false := by cases d' <;> first | rfl | (rename_i k; exact absurd rfl (hd' k))
  obtain ⟨f1, f2, f3, f4⟩ := fits_ok hfit
  have hsz : (sizeOf e).run P w = .ok k.size w := by simp [sizeOf, typeInfo, hi, hks]
  have hb0 : ti.bytes ≠ 0 := by omega
  have hcap := nextslicecap_le (need := sLen + ys.length) (cap := sCap) (by omega)
  have hbig : ¬ Builtin.nextslicecap (sLen + ys.length) sCap * ti.bytes > 2 ^ 48 := by
    have h1 : Builtin.nextslicecap (sLen + ys.length) sCap * ti.bytes ≤ (2 * (sLen + ys.length) + 192) * ti.bytes := Nat.mul_le_mul_right _ hcap
    have h2 : (2 * (sLen + ys.length) + 192) * ti.bytes = 2 * ((sLen + ys.length) * ti.bytes) + 192 * ti.bytes := by rw [Nat.add_mul, Nat.mul_assoc]
    omega
  let q : Question := .appendCap (sLen + ys.length) sCap e
  let newCap := q.cut (w.tape w.drawn q)
  have hnc : sLen + ys.length ≤ newCap := by show _ ≤ Question.cut _ _; simp [q, Question.cut]
  refine ⟨newCap, (old ++ cs).toArray ++ Builtin.zeroCells z.cells (newCap - (sLen + ys.length)), hnc, ?_, ?_, ?_⟩
  · simp only [Array.size_append, List.size_toArray, List.length_append, zeroCells_size, hol, hcl, hzl]
    rw [← Nat.add_mul, ← Nat.add_mul]
    congr 1
    omega
  · intro j v hj
    have hlt := (List.getElem?_eq_some_iff.1 hj).1
    rw [Array.getElem?_append_left (by simpa using hlt)]
    simpa using hj
  · unfold Builtin.append_
    have hch : (choose q).run P w = .ok newCap w.drew := by simp [choose, Sem.run, q, Question.forced, newCap]
    have hgt' : ¬ (sLen + ys.length ≤ sCap) := hgt
    have hbig' : ¬ (281474976710656 < Builtin.nextslicecap (sLen + ys.length) sCap * ti.bytes) := by have h := hbig; simpa using h
    simp [run_underlying hst, run_underlying hxt, hsz, hl, hm, hgt', typeInfo, hi, hb0]
    rw [if_neg hbig', if_neg (by simp [Question.forced]), ho]
    simp only [Result.andThen_ok, hf]
    simp [zeroValue, typeInfo, hi, hz, newRow, newCap, q]
    congr 2
    apply Array.ext'
    simp

/-- What is appended, as the model takes it. -/
def Source (P : Program) (rom : Rom) (k : EK) (ys : List k.T) (e st xt ty : TypeId) (v : Value) (w : World) : Prop :=
  (∃ cs : List Value, LRel (EK.Rel rom k) ys cs ∧ (∀ v ∈ cs, v.oneCell' = true) ∧
    (∀ (base : Option Addr) (sLen sCap : Nat) (w' : World), sLen + ys.length ≤ sCap → (match base with | some a => storeCells (a.add (sLen * k.size)) cs | none => pure ()).run P w = .ok () w' →
      (Builtin.append_ #[st, xt] ty #[.slice base sLen sCap, v]).run P w = .ok (.slice base (sLen + ys.length) sCap) w')) ∧
  (∃ cs : List Value, LRel (EK.Rel rom k) ys cs ∧
    ∀ (base : Option Addr) (sLen sCap : Nat) (old : List Value), ¬ sLen + ys.length ≤ sCap → fits (P.bytesOf e) (sLen + ys.length) = true →
      (Builtin.firstCells k.size sLen (.slice base sLen sCap)).run P w.drew = .ok old.toArray w.drew → old.length = sLen * k.size →
      ∃ (newCap : Nat) (c : Array Value), sLen + ys.length ≤ newCap ∧ c.size = newCap * k.size ∧ (∀ (j : Nat) (v : Value), (old ++ cs)[j]? = some v → c[j]? = some v) ∧
        (Builtin.append_ #[st, xt] ty #[.slice base sLen sCap, v]).run P w = .ok (.slice (some ⟨w.heap.size, 0, none⟩) (sLen + ys.length) newCap) (w.drew.alloc (.cells c e)))

theorem bytesOf_of {P : Program} {e : TypeId} {p0 : TypeInfo} (hi : P.info? e = some p0) : P.bytesOf e = p0.bytes := by simp [Program.bytesOf, hi]

/-- A slice's, a string's content. -/
theorem source_content (hR : Rel rom ρ hg w) {st xt ty e : TypeId} {d' : TypeDesc} (hst : P.underlying st = some (.slice e)) (hxt : P.underlying xt = some d') (hd' : ∀ k, d' ≠ .int k)
    {y : AC} {v : Value} {k : EK} {ys : List k.T} {c : Bool} {ids : List Nat} {p0 : TypeInfo} {z : Value} (hys : content hg k y = some (ys, c, ids)) (hc : c = true) (hy : CRel rom ρ y v)
    (hi : P.info? e = some p0) (hks' : k.size = p0.size) (hz : p0.zero = some z) (hzl : z.cells.size = k.size) (hszr : (sizeOf e).run P w = .ok k.size w) : Source P rom k ys e st xt ty v w := by
  obtain ⟨q1, cs, q2, q3, q4⟩ := content_ok hR hys hc hy
  have hsz : ∀ x c, EK.Rel rom k x c → c.length = k.size := fun x c hx => EK.Rel.length hx
  have hcl := LRel.length hsz q2
  have hbase : (cs.take (ys.length * k.size)) = cs := List.take_of_length_le (by omega)
  have hf := q3 _ (Nat.le_refl _)
  rw [hbase] at hf
  have hRd : Rel rom ρ hg w.drew := hR.world (fun _ _ _ => ⟨rfl, rfl⟩)
  obtain ⟨d1, cs', d2, d3, d4⟩ := content_ok (P := P) hRd hys hc hy
  have hcl' := LRel.length hsz d2
  have hd3 := d3 _ (Nat.le_refl _)
  rw [List.take_of_length_le (by omega)] at hd3
  refine ⟨⟨cs, q2, q4, fun base sLen sCap w' hle hs => ?_⟩, cs', d2, fun base sLen sCap old hle hfit ho hol => ?_⟩
  · exact run_append_room hst hxt hd' hszr rfl hle q1 hf hs
  · rw [bytesOf_of hi] at hfit
    exact run_append_grow hst hxt hd' hi hks' hz hzl hle hfit q1 hd3 ho hcl' hol

theorem flat_get {z : List Value} : ∀ (m j : Nat) (v : Value), (List.replicate m z).flatten[j]? = some v → z[j % z.length]? = some v
  | 0, j, v, h => by simp at h
  | m + 1, j, v, h => by
    rw [List.replicate_succ, List.flatten_cons] at h
    by_cases hj : j < z.length
    · rw [List.getElem?_append_left hj] at h
      rw [Nat.mod_eq_of_lt hj]; exact h
    · rw [List.getElem?_append_right (by omega)] at h
      have := flat_get m _ v h
      rwa [← Nat.mod_eq_sub_mod (by omega)] at this

theorem range_get {z : Array Value} {n j : Nat} {v : Value} (hj : j < n) (h : z.toList[j % z.toList.length]? = some v) : ((Array.range n).map (fun i => z[i % z.size]!))[j]? = some v := by
  simp only [Array.length_toList] at h
  have h' : z[j % z.size]? = some v := by simpa using h
  obtain ⟨hlt, hv⟩ := Array.getElem?_eq_some_iff.1 h'
  simp [hj, getElem!_pos z (j % z.size) hlt, hv]

theorem zeroCells_flat (z : Array Value) (n : Nat) : (Builtin.zeroCells z n).toList = (List.replicate n z.toList).flatten := by
  apply List.ext_getElem?
  intro j
  have hfl : (List.replicate n z.toList).flatten.length = n * z.size := by simp
  by_cases hj : j < n * z.size
  · obtain ⟨v, hv⟩ : ∃ v, (List.replicate n z.toList).flatten[j]? = some v := ⟨_, List.getElem?_eq_getElem (by omega)⟩
    rw [hv, Array.getElem?_toList]
    exact range_get (z := z) (n := n * z.size) hj (flat_get _ _ _ hv)
  · rw [List.getElem?_eq_none (by simp [zeroCells_size]; omega), List.getElem?_eq_none (by omega)]

/-- So many zeros. -/
theorem source_zeros {st xt ty e : TypeId} {ki ki' : IntKind} (hst : P.underlying st = some (.slice e)) (hxt : P.underlying xt = some (.int ki))
    {k : EK} {n : Int} {p0 : TypeInfo} {z : Value} (hi : P.info? e = some p0) (hks' : k.size = p0.size) (hz : p0.zero = some z) (hzl : z.cells.size = k.size) (hszr : (sizeOf e).run P w = .ok k.size w)
    (hzr : ∀ rom, EK.Rel rom k k.dflt z.cells.toList) (h0 : 0 ≤ n) (hfn : fits p0.bytes n.toNat = true) : Source P rom k (List.replicate n.toNat k.dflt) e st xt ty (.int ki' n) w := by
  obtain ⟨g1, g2, g3, g4⟩ := fits_ok hfn
  have hw : IntKind.i64.wrap n = n := by
    have := wrapF_eq .i64 n
    rw [← this]
    simp only [ifF_i64]
    split <;> omega
  have hbig : ¬ (n * (p0.bytes : Int) > 2 ^ 48) := by
    have : ((n.toNat * p0.bytes : Nat) : Int) ≤ 35184372088832 := by omega
    rw [Int.natCast_mul, Int.toNat_of_nonneg h0] at this
    omega
  have hneg : ¬ n < 0 := by omega
  have hrel : LRel (EK.Rel rom k) (List.replicate n.toNat k.dflt) (Builtin.zeroCells z.cells n.toNat).toList := by
    have hr : LRel (EK.Rel rom k) (List.replicate n.toNat k.dflt) (List.replicate n.toNat z.cells.toList).flatten := LRel.replicate (hzr rom) _
    have : (Builtin.zeroCells z.cells n.toNat).toList = (List.replicate n.toNat z.cells.toList).flatten := zeroCells_flat z.cells n.toNat
    rw [this]; exact hr
  have hsize := zeroCells_size z.cells n.toNat
  have hbig0 : ¬ 281474976710656 < n * (p0.bytes : Int) := by have h := hbig; simpa using h
  have hempty : n.toNat * k.size = 0 → Builtin.zeroCells z.cells n.toNat = #[] := fun hh => Array.size_eq_zero_iff.1 (by rw [hsize, hzl]; exact hh)
  refine ⟨⟨(Builtin.zeroCells z.cells n.toNat).toList, hrel, LRel.all (fun x c hx => EK.Rel.one hx) hrel, fun base sLen sCap w' hle hs => ?_⟩, (Builtin.zeroCells z.cells n.toNat).toList, hrel, fun base sLen sCap old hle hfit ho hol => ?_⟩
  · simp only [List.length_replicate] at hle ⊢
    unfold Builtin.append_
    cases base with
    | none =>
      simp at hs
      subst hs
      by_cases hh : n.toNat * k.size = 0
      · simp [run_underlying hst, run_underlying hxt, hszr, asInt, asIntOf, hw, hneg, typeInfo, hi, hbig0, hle, hh]
      · simp [run_underlying hst, run_underlying hxt, hszr, asInt, asIntOf, hw, hneg, typeInfo, hi, hbig0, hle, hh, zeroValue, hz]
    | some a =>
      simp at hs
      by_cases hh : n.toNat * k.size = 0
      · rw [hempty hh] at hs
        simp at hs
        simp [run_underlying hst, run_underlying hxt, hszr, asInt, asIntOf, hw, hneg, typeInfo, hi, hbig0, hle, hh, hs]
      · simp [run_underlying hst, run_underlying hxt, hszr, asInt, asIntOf, hw, hneg, typeInfo, hi, hbig0, hle, hh, zeroValue, hz, hs]
  · simp only [List.length_replicate] at hle hfit ⊢
    rw [bytesOf_of hi] at hfit
    obtain ⟨f1, f2, f3, f4⟩ := fits_ok hfit
    have hcap := nextslicecap_le (need := sLen + n.toNat) (cap := sCap) (by omega)
    have hbig2 : ¬ Builtin.nextslicecap (sLen + n.toNat) sCap * p0.bytes > 2 ^ 48 := by
      have h1 : Builtin.nextslicecap (sLen + n.toNat) sCap * p0.bytes ≤ (2 * (sLen + n.toNat) + 192) * p0.bytes := Nat.mul_le_mul_right _ hcap
      have h2 : (2 * (sLen + n.toNat) + 192) * p0.bytes = 2 * ((sLen + n.toNat) * p0.bytes) + 192 * p0.bytes := by rw [Nat.add_mul, Nat.mul_assoc]
      omega
    have hmax : ¬ ((sLen + n.toNat : Nat) : Int) > IntKind.i64.max := by
      have : IntKind.i64.max = 9223372036854775807 := by decide
      rw [this]; omega
    let q : Question := .appendCap (sLen + n.toNat) sCap e
    let newCap := q.cut (w.tape w.drawn q)
    have hnc : sLen + n.toNat ≤ newCap := by show _ ≤ Question.cut _ _; simp [q, Question.cut]
    refine ⟨newCap, old.toArray ++ Builtin.zeroCells z.cells n.toNat ++ Builtin.zeroCells z.cells (newCap - (sLen + n.toNat)), hnc, ?_, ?_, ?_⟩
    · simp only [Array.size_append, List.size_toArray, zeroCells_size, hol, hzl]
      rw [← Nat.add_mul, ← Nat.add_mul]
      congr 1
      omega
    · intro j v hj
      have hlt := (List.getElem?_eq_some_iff.1 hj).1
      rw [Array.getElem?_append_left (by simpa [hsize] using hlt), ← Array.getElem?_toList]
      simpa using hj
    · unfold Builtin.append_
      have hch : (choose q).run P w = .ok newCap w.drew := by simp [choose, Sem.run, q, Question.forced, newCap]
      have hbig' : ¬ (281474976710656 < Builtin.nextslicecap (sLen + n.toNat) sCap * p0.bytes) := by have h := hbig2; simpa using h
      have hmax' : ¬ (IntKind.i64.max < (sLen : Int) + (n.toNat : Int)) := by have h := hmax; simpa using h
      by_cases hh : n.toNat * k.size = 0
      · have he := hempty hh
        simp [run_underlying hst, run_underlying hxt, hszr, asInt, asIntOf, hw, hneg, typeInfo, hi, hbig0, hle, hh, he]
        rw [if_neg (by have := hmax'; omega), if_neg hbig', if_neg (by simp [Question.forced]), ho]
        simp [zeroValue, typeInfo, hi, hz, newRow, newCap, q]
      · simp [run_underlying hst, run_underlying hxt, hszr, asInt, asIntOf, hw, hneg, typeInfo, hi, hbig0, hle, hh]
        rw [if_neg (by have := hmax'; omega), if_neg hbig', if_neg (by simp [Question.forced]), ho]
        simp [zeroValue, typeInfo, hi, hz, newRow, newCap, q]

/-- An append: what was there ('zs'), with what is appended behind it, in a block of a new number. 'hg1': the blocks without the old one, where it ends. -/
theorem append_core {o : Oper} {a : Act} (hR : Rel rom ρ hg w) {st xt ty e : TypeId}
    {u v : Value} {k : EK} {ys : List k.T} {p0 : TypeInfo} {z : Value} {bytes : Nat} (hsrc : Source P rom k ys e st xt ty v w)
    (hi : P.info? e = some p0) (hks' : k.size = p0.size) (hz : p0.zero = some z) (hzl : z.cells.size = k.size) (hpb : p0.bytes = bytes) (hszr : (sizeOf e).run P w = .ok k.size w)
    (hrun : ∀ z w', (Builtin.append_ #[st, xt] ty #[u, v]).run P w = .ok z w' → (execOp a.eval o).run P w = .ok (.value z) w')
    (zs : List k.T) (cs0 : List Value) (base : Option Addr) (sLen sCap : Nat) (hg1 : Nat → Option Seg)
    (hu : u = .slice base sLen sCap) (hR1 : Rel rom ρ hg1 w) (hL1 : Lnk ρ hg1 lk) (hown : ∀ b o, Own hg1 ρ b o → Own hg ρ b o) (hnone : ∀ i, hg i = none → hg1 i = none)
    (hzlen : zs.length = sLen) (hzrel : LRel (EK.Rel rom k) zs cs0) (hcells : zs = [] ∨ ∃ b o, base = some ⟨b, o, none⟩ ∧ ∀ j v, cs0[j]? = some v → w.cell? ⟨b, o + j, none⟩ = some v)
    (hfit : fits bytes (sLen + ys.length) = true)
    (hroom : sLen + ys.length ≤ sCap → sCap ≠ 0 → ∃ b o, base = some ⟨b, o, none⟩ ∧ (∀ j, j < sCap * k.size → (w.cell? ⟨b, o + j, none⟩).isSome = true ∧ frz w b = false) ∧
        (∀ j, j < sCap * k.size → Own hg ρ b (o + j) ∧ ¬ Own hg1 ρ b (o + j) ∧ rom b (o + j) = none))
    (hfree : hg nid = none ∧ ρ nid = none) :
    ∃ u' w' ρ', (execOp a.eval o).run P w = .ok (.value u') w' ∧ CRel rom ρ' (.slw nid k.size) u' ∧
      Aft rom ρ hg w rom ρ' (setF hg1 nid (some (.arr k none (zs ++ ys)))) (setF lk nid false) w' nid 1 := by
  obtain ⟨⟨cs, q2, q4, q1⟩, cs', d2, q3⟩ := hsrc
  have hfree1 : hg1 nid = none ∧ ρ nid = none := ⟨hnone nid hfree.1, hfree.2⟩
  have hsz : ∀ x c, EK.Rel rom k x c → c.length = k.size := fun x c hx => EK.Rel.length hx
  have hcl := LRel.length hsz q2
  have hzl' := LRel.length hsz hzrel
  -- a new row: from hg1's transition to hg's
  have lift : ∀ {ρ' : RM} {hg' : Nat → Option Seg} {lk' : Nat → Bool} {w' : World}, Aft rom ρ hg1 w rom ρ' hg' lk' w' nid 1 → Aft rom ρ hg w rom ρ' hg' lk' w' nid 1 := by
    intro ρ' hg' lk' w' haft
    refine ⟨haft.rel, haft.lnk, ?_, haft.dom⟩
    have t0 : Tr rom ρ hg w rom ρ hg1 w := Tr.stored rfl rfl rfl rfl hown (fun _ _ => rfl) (fun _ _ _ => ⟨rfl, rfl⟩)
    exact t0.trans haft.tr
  by_cases hle : sLen + ys.length ≤ sCap
  · by_cases hcap : sCap = 0
    · -- nothing in nothing
      have h1 : zs = [] := List.length_eq_zero_iff.1 (by omega)
      have h2 : ys = [] := List.length_eq_zero_iff.1 (by omega)
      have hrun0 := q1 base sLen sCap w hle (by
        subst h2
        simp at hcl
        subst hcl
        cases base <;> simp [storeCells])
      rw [← hu] at hrun0
      refine ⟨_, w, _, hrun _ _ hrun0, slw_new (ρ := ρ) (b := w.heap.size) (o := 0) (ext := 0) (n := sLen + ys.length) (fun h => absurd hcap h) hle (by simp [hcap]), ?_⟩
      have := empty_aft (nid := nid) hR1 hL1 k hfree1
      subst h1; subst h2
      have e0 : sLen = 0 := by simpa using hzlen.symm
      subst e0
      exact lift (by simpa using this)
    · -- in place
      obtain ⟨b, o', hb, hthere, howns⟩ := hroom hle hcap
      have hstore := run_storeCells_cells (P := P) b (o' + sLen * k.size) cs 0 w
        (fun j hj => by
          have := (hthere (sLen * k.size + j) (by rw [hcl] at hj; have : (sLen + ys.length) * k.size ≤ sCap * k.size := Nat.mul_le_mul_right _ hle; rw [Nat.add_mul] at this; omega)).1
          simpa [Nat.add_assoc] using this)
        (fun j hj => by
          have := (hthere (sLen * k.size + j) (by rw [hcl] at hj; have : (sLen + ys.length) * k.size ≤ sCap * k.size := Nat.mul_le_mul_right _ hle; rw [Nat.add_mul] at this; omega))
          simpa [Nat.add_assoc] using frozen_of_frz this.2 this.1) q4
      have hrun0 := q1 base sLen sCap (w.setCells b (o' + sLen * k.size) cs) hle (by
        rw [hb]
        simpa [addr_add] using hstore)
      rw [← hu] at hrun0
      have hin : (sLen + ys.length) * k.size ≤ sCap * k.size := Nat.mul_le_mul_right _ hle
      rw [Nat.add_mul] at hin
      -- the world behind it, for hg1: nobody's cells were written
      have hc1 : ∀ b' o'', (Own hg1 ρ b' o'' ∨ ∃ v, rom b' o'' = some v) → (w.setCells b (o' + sLen * k.size) cs).cell? ⟨b', o'', none⟩ = w.cell? ⟨b', o'', none⟩ ∧ frz (w.setCells b (o' + sLen * k.size) cs) b' = frz w b' := by
        intro b' o'' ho
        refine ⟨World.cell?_setCells_out _ _ _ _ _ (fun e1 _ => ?_), frz_setCells _ _ _ _ _⟩
        simp only at e1
        subst e1
        by_cases hlt : o'' < o' + sLen * k.size ∨ o' + sLen * k.size + cs.length ≤ o''
        · exact hlt
        · exfalso
          have := howns (o'' - o') (by rw [hcl] at hlt; omega)
          rw [show o' + (o'' - o') = o'' by omega] at this
          rcases ho with ho | ⟨v, hv⟩
          · exact this.2.1 ho
          · rw [this.2.2] at hv; cases hv
      have hR2 := hR1.world hc1
      have hnew := Rel.add hR2 (id := nid) (g := .arr k none (zs ++ ys)) (r := .mkP b o' (sCap * k.size) (sLen + ys.length)) hfree1.2 hfree1.1
        ⟨⟨cs0 ++ cs, ⟨by simp, LRel.append hzrel q2⟩, by rw [List.length_append, hzl', hzlen, hcl]; exact hin, fun j v hj => by
            by_cases hjl : j < cs0.length
            · rw [List.getElem?_append_left hjl] at hj
              rw [World.cell?_setCells_out _ _ _ _ _ (fun _ _ => .inl (by rw [hzl', hzlen] at hjl; simp; omega))]
              rcases hcells with hc0 | ⟨b2, o2, hb2, hc0⟩
              · subst hc0; simp at hzl'; subst hzl'; simp at hj
              · rw [hb] at hb2; cases hb2; exact hc0 j v hj
            · rw [List.getElem?_append_right (by omega)] at hj
              have hlt := (List.getElem?_eq_some_iff.1 hj).1
              have := World.cell?_setCells_in b cs (o' + sLen * k.size) w (fun i hi => by
                have := (hthere (sLen * k.size + i) (by rw [hcl] at hi; omega)).1
                rwa [← Nat.add_assoc] at this) (j - cs0.length) hlt
              rw [show o' + sLen * k.size + (j - cs0.length) = o' + j by rw [hzl', hzlen]; rw [hzl', hzlen] at hjl; omega] at this
              rw [this, ← hj, List.getElem?_eq_getElem hlt]⟩,
          by simp [glen, hzlen], fun j hj => ⟨setCells_isSome _ _ _ _ _ (hthere j hj).1, by rw [frz_setCells]; exact (hthere j hj).2⟩, XRel.mk rfl⟩
        (by
          intro b' o'' hh
          obtain ⟨e1, e2, e3⟩ := RE.mkP_has hh
          subst e1
          have := howns (o'' - o') (by omega)
          rw [show o' + (o'' - o') = o'' by omega] at this
          exact this.2)
      refine ⟨_, _, _, hrun _ _ hrun0, slw_new (ρ := ρ) (b := b) (o := o') (ext := sCap * k.size) (n := sLen + ys.length) (fun _ => hb) hle (Nat.le_refl _), hnew, ?_, ?_, ?_⟩
      · -- links
        intro i r' g2 wd h1 h2 h3 h4
        by_cases hi0 : i = nid
        · subst hi0; simp at h1
        · rw [setF_ne _ _ hi0] at h1 h2 h3
          obtain ⟨q, r2, e1, e2, e3⟩ := hL1 i r' g2 wd h1 h2 h3 h4
          refine ⟨q, r2, ?_, e2, e3⟩
          by_cases hi1 : i + 1 = nid
          · rw [hi1] at e1; rw [hfree1.2] at e1; cases e1
          · rw [setF_ne _ _ hi1]; exact e1
      · have hs := setCells_same b cs (o' + sLen * k.size) w
        have hwr : ∀ j, j < cs.length → Own hg ρ b (o' + sLen * k.size + j) := fun j hj => by
          have := (howns (sLen * k.size + j) (by rw [hcl] at hj; omega)).1
          rwa [← Nat.add_assoc] at this
        refine ⟨fun _ _ _ h => h, fun i r' h => ?_, by omega, hs.2.1, hs.2.2.1, hs.2.2.2, fun b' hb' ho => ?_, fun b' o'' hb' ho => ?_, fun b' o'' ho hb' => ?_, fun _ _ _ h1 h2 _ => by rw [h2] at h1; cases h1⟩
        · rw [setF_ne _ _ (by rintro rfl; rw [hfree1.2] at h; cases h)]; exact h
        · by_cases hb0 : b' = b
          · subst hb0
            cases cs with
            | nil => rfl
            | cons v0 cs => exact absurd (hwr 0 (by simp)) (ho _)
          · exact setCells_other b b' hb0 _ _ _
        · refine ⟨World.cell?_setCells_out _ _ _ _ _ (fun e1 _ => ?_), frz_setCells _ _ _ _ _⟩
          simp only at e1
          subst e1
          by_cases hlt : o'' < o' + sLen * k.size ∨ o' + sLen * k.size + cs.length ≤ o''
          · exact hlt
          · exfalso
            have := hwr (o'' - (o' + sLen * k.size)) (by omega)
            rw [show o' + sLen * k.size + (o'' - (o' + sLen * k.size)) = o'' by omega] at this
            exact ho this
        · rcases Own.add ho with h | hh
          · exact hown _ _ h
          · obtain ⟨e1, e2, e3⟩ := RE.mkP_has hh
            subst e1
            have := (howns (o'' - o') (by omega)).1
            rwa [show o' + (o'' - o') = o'' by omega] at this
      · intro i h1 h2
        rw [setF_ne _ _ (by omega)]; exact h1
  · -- a new row
    have ho : (Builtin.firstCells k.size sLen (.slice base sLen sCap)).run P w.drew = .ok cs0.toArray w.drew := by
      rcases hcells with hc0 | ⟨b, o', hb, hc0⟩
      · subst hc0
        have e0 : sLen = 0 := by simpa using hzlen.symm
        subst e0
        simp at hzl'
        subst hzl'
        cases base with
        | none => simp [Builtin.firstCells]
        | some a0 => simpa [Builtin.firstCells] using run_loadN (P := P) (w := w.drew) (a := a0) (cs := []) (by simp) 0 (by simp)
      · subst hb
        have := run_loadN (P := P) (w := w.drew) (a := ⟨b, o', none⟩) (cs := cs0) (fun j v hj => by rw [addr_add]; exact hc0 j v hj) (sLen * k.size) (by rw [hzl', hzlen]; exact Nat.le_refl _)
        rw [List.take_of_length_le (by rw [hzl', hzlen]; exact Nat.le_refl _)] at this
        simpa [Builtin.firstCells] using this
    have hcl' := LRel.length hsz d2
    obtain ⟨newCap, cc, n1, n2, n3, n4⟩ := q3 base sLen sCap cs0 hle (by rw [bytesOf_of hi, hpb]; exact hfit) ho (by rw [hzl', hzlen])
    rw [← hu] at n4
    have hgr : w.grownBy (w.drew.alloc (.cells cc e)) none := by
      have := grown_alloc w.drew (.cells cc e)
      exact ⟨this.os, this.tape, this.output, this.size, this.block⟩
    have hmul : (sLen + ys.length) * k.size ≤ newCap * k.size := Nat.mul_le_mul_right _ n1
    have haft := arr_aft (nid := nid) (l := zs ++ ys) (cs := cs0 ++ cs') (ext := newCap * k.size) hR1 hL1 (LRel.append hzrel d2) hgr
      (by rw [Nat.add_mul] at hmul; rw [List.length_append, hzl', hzlen, hcl']; exact hmul)
      (fun j v hj => by
        have := World.cell?_alloc_new w.drew cc e j
        simp only [World.size_drew] at this
        rw [this]
        exact n3 j v hj)
      (fun j hj => by
        have := alloc_there w.drew cc e j (by omega)
        simpa using this) hfree1
    have hlen : (zs ++ ys).length = sLen + ys.length := by simp [hzlen]
    rw [hlen] at haft
    exact ⟨_, _, _, hrun _ _ n4, slw_new (ρ := ρ) (b := w.heap.size) (o := 0) (ext := newCap * k.size) (n := sLen + ys.length) (fun _ => rfl) n1 (Nat.le_refl _), lift haft⟩

end
end Go.Rf

set_option linter.unusedVariables false
set_option linter.unusedSimpArgs false
set_option linter.unusedSectionVars false
namespace Go.Rf
open Go

section
variable {P : Program} {Γ : Tab} {rom : Rom} {ρ : RM} {w w' : World} {hg : Nat → Option Seg} {lk : Nat → Bool} {nid : Nat}

theorem drop_one (hg : Nat → Option Seg) (id : Nat) : hgU hg [(id, none)] = setF hg id none := rfl

/-- An append's core: see 'append_core'. -/
def Core (P : Program) (rom : Rom) (ρ : RM) (hg : Nat → Option Seg) (lk : Nat → Bool) (nid : Nat) (o : Oper) (a : Act) (w : World) (u : Value) (k : EK) (ys : List k.T) (bytes : Nat) : Prop :=
  ∀ (zs : List k.T) (cs0 : List Value) (base : Option Addr) (sLen sCap : Nat) (hg1 : Nat → Option Seg), u = .slice base sLen sCap → Rel rom ρ hg1 w → Lnk ρ hg1 lk → (∀ b o, Own hg1 ρ b o → Own hg ρ b o) → (∀ i, hg i = none → hg1 i = none) →
    zs.length = sLen → LRel (EK.Rel rom k) zs cs0 → (zs = [] ∨ ∃ b o, base = some ⟨b, o, none⟩ ∧ ∀ j v, cs0[j]? = some v → w.cell? ⟨b, o + j, none⟩ = some v) → fits bytes (sLen + ys.length) = true →
    (sLen + ys.length ≤ sCap → sCap ≠ 0 → ∃ b o, base = some ⟨b, o, none⟩ ∧ (∀ j, j < sCap * k.size → (w.cell? ⟨b, o + j, none⟩).isSome = true ∧ frz w b = false) ∧
        (∀ j, j < sCap * k.size → Own hg ρ b (o + j) ∧ ¬ Own hg1 ρ b (o + j) ∧ rom b (o + j) = none)) →
    (hg nid = none ∧ ρ nid = none) → ∃ u' w' ρ', (execOp a.eval o).run P w = .ok (.value u') w' ∧ CRel rom ρ' (.slw nid k.size) u' ∧
      Aft rom ρ hg w rom ρ' (setF hg1 nid (some (.arr k none (zs ++ ys)))) (setF lk nid false) w' nid 1

theorem appendY_ok {o : Oper} {a : Act} (hR : Rel rom ρ hg w) (hL : Lnk ρ hg lk)
    {x : AC} {u : Value} {k : EK} {bytes : Nat} {ys : List k.T} {c : Bool} {ids : List Nat} {r : OR} (h : appendY hg nid k bytes ys c ids x = some r) (hx : CRel rom ρ x u)
    (core : c = true → Core P rom ρ hg lk nid o a w u k ys bytes) : Does P o a w rom ρ hg lk nid r := by
  unfold appendY at h
  have hsz : ∀ x c, EK.Rel rom k x c → c.length = k.size := fun x c hx => EK.Rel.length hx
  -- a block of one's own that ends
  have ends : ∀ {id : Nat} {r0 : RE} {n : Option Nat} {l : List k.T}, hg id = some (.arr k n l) → ρ id = some r0 → ∀ (off cap : Nat), (off + cap) * k.size ≤ r0.ext →
      ∀ j, j < cap * k.size → ((w.cell? ⟨r0.b, r0.o + off * k.size + j, none⟩).isSome = true ∧ frz w r0.b = false) ∧
        Own hg ρ r0.b (r0.o + off * k.size + j) ∧ ¬ Own (setF hg id none) ρ r0.b (r0.o + off * k.size + j) ∧ rom r0.b (r0.o + off * k.size + j) = none := by
    intro id r0 n l hid hr off cap hext j hj
    rw [Nat.add_mul] at hext
    obtain ⟨r', hr', hb⟩ := hR.blk id _ hid
    rw [hr] at hr'
    cases hr'
    have hhas : r0.has r0.b (r0.o + off * k.size + j) := .inl ⟨rfl, by omega, by omega⟩
    refine ⟨?_, ⟨id, _, r0, hid, hr, hhas⟩, ?_, ?_⟩
    · have := hb.there (off * k.size + j) (by omega)
      rwa [← Nat.add_assoc] at this
    · rintro ⟨i, g, q, h1, h2, h3⟩
      by_cases e0 : i = id
      · subst e0; simp at h1
      · rw [setF_ne _ _ e0] at h1
        exact hR.dis i id g _ q r0 h1 hid e0 h2 hr _ _ h3 hhas
    · cases hrom : rom r0.b (r0.o + off * k.size + j) with
      | none => rfl
      | some v => exact absurd hhas ((hR.rm _ _ _ hrom).2 id _ r0 hid hr)
  have nohg : ∀ (id i : Nat), hg i = none → setF hg id none i = none := fun id i h => by
    by_cases e0 : i = id
    · subst e0; simp
    · rw [setF_ne _ _ e0]; exact h
  split at h
  · -- nil
    cases h
    refine does_run fun x hx' hchk hf => ?_
    simp only [OR.eff, Bool.and_eq_true] at hchk
    have hfree := hf nid (Nat.le_refl _) (by simp [OR.eff])
    simp only [CRel] at hx
    obtain ⟨u', w', ρ', h1, h2, h3⟩ := core hchk.1 [] [] none 0 0 hg hx hR hL (fun _ _ h => h) (fun _ h => h) rfl rfl (.inl rfl) (by simpa using hchk.2) (fun _ h => absurd rfl h) hfree
    exact ⟨u', w', rom, ρ', .inl h1, h2, by simpa [OR.eff, hgA, hgU, hgN, lkN] using h3⟩
  · -- a whole block
    rename_i id esz
    split at h <;> try (cases h; done)
    rename_i k' l hid
    split at h <;> try (cases h; done)
    rename_i he
    subst he
    split at h <;> try (cases h; done)
    rename_i hes
    cases h
    refine does_run fun x hx' hchk hf => ?_
    simp only [OR.eff, Bool.and_eq_true] at hchk
    have hfree := hf nid (Nat.le_refl _) (by simp [OR.eff])
    obtain ⟨r0, base, cap, hr, e1, e2, e3, e4⟩ := hx
    obtain ⟨r', hr', hb⟩ := hR.blk id _ hid
    rw [hr] at hr'
    cases hr'
    have hlen := hb.len
    simp only [glen] at hlen
    obtain ⟨⟨cs, g1, g2, g3⟩, _, _, _⟩ := hb
    have hend := ends hid hr 0 cap (by rw [Nat.zero_add, ← hes]; exact e4)
    simp only [Nat.zero_mul, Nat.add_zero] at hend
    obtain ⟨u', w', ρ', h1, h2, h3⟩ := core hchk.1 l cs base r0.n cap (setF hg id none) e1 (hR.drop id) (hL.drop id) (fun _ _ h => Own.drop h) (nohg id) hlen g1.2
      (by
        by_cases h0 : l = []
        · exact .inl h0
        · have : 0 < l.length := List.length_pos_iff.2 h0
          exact .inr ⟨r0.b, r0.o, e2 (by omega), g3⟩)
      (by rw [← hlen]; exact hchk.2)
      (fun _ hne => ⟨r0.b, r0.o, e2 hne, fun j hj => (hend j hj).1, fun j hj => (hend j hj).2⟩) hfree
    exact ⟨u', w', rom, ρ', .inl h1, h2, by simpa [OR.eff, hgA, hgU, hgN, lkN] using h3⟩
  · -- a part of a block
    rename_i id esz off len cp
    split at h <;> try (cases h; done)
    rename_i k' m l hid
    split at h <;> try (cases h; done)
    rename_i he
    subst he
    split at h <;> try (cases h; done)
    rename_i hes
    obtain ⟨r0, base, cap, hr, e1, e2, e3, e4, e5⟩ := hx
    obtain ⟨r', hr', hb⟩ := hR.blk id _ hid
    rw [hr] at hr'
    cases hr'
    obtain ⟨⟨cs, g1, g2, g3⟩, _, _, _⟩ := hb
    have hend := ends hid hr off cap (by rw [← hes]; exact e4)
    have hdl := LRel.length hsz g1.2
    split at h
    · -- of no elements and no room
      cases h
      refine does_run fun x hx' hchk hf => ?_
      simp only [OR.eff, Bool.and_eq_true] at hchk
      have hfree := hf nid (Nat.le_refl _) (by simp [OR.eff])
      have hc0 := e5 0 rfl
      subst hc0
      have hl0 : len = 0 := by omega
      subst hl0
      obtain ⟨u', w', ρ', h1, h2, h3⟩ := core hchk.1 [] [] base 0 0 hg e1 hR hL (fun _ _ h => h) (fun _ h => h) rfl rfl (.inl rfl) (by simpa using hchk.2) (fun _ h => absurd rfl h) hfree
      exact ⟨u', w', rom, ρ', .inl h1, h2, by simpa [OR.eff, hgA, hgU, hgN, lkN] using h3⟩
    · -- of a known capacity: it is full
      rename_i cp'
      cases h
      refine does_run fun x hx' hchk hf => ?_
      simp only [OR.eff, Bool.and_eq_true, decide_eq_true_eq] at hchk
      obtain ⟨⟨⟨hc1, hc2⟩, hc3⟩, hc4⟩ := hchk
      have hfree := hf nid (Nat.le_refl _) (by simp [OR.eff])
      have hcc := e5 _ rfl
      obtain ⟨_, q2⟩ := LRel.take_drop hsz g1.2 off (by omega)
      obtain ⟨q3, _⟩ := LRel.take_drop hsz q2 len (by simp; omega)
      obtain ⟨u', w', ρ', h1, h2, h3⟩ := core hc1 ((l.drop off).take len) ((cs.drop (off * k'.size)).take (len * k'.size)) base len cap (setF hg id none) e1 (hR.drop id) (hL.drop id) (fun _ _ h => Own.drop h) (nohg id)
        (by simp; omega) q3
        (by
          by_cases h0 : len = 0
          · exact .inl (by subst h0; simp)
          · refine .inr ⟨r0.b, r0.o + off * k'.size, by rw [e2 (by omega), hes], fun j v hj => ?_⟩
            rw [List.getElem?_take] at hj
            split at hj <;> try (cases hj; done)
            rw [List.getElem?_drop] at hj
            rw [Nat.add_assoc]
            exact g3 _ v hj)
        hc4 (fun _ hne => ⟨r0.b, r0.o + off * k'.size, by rw [e2 hne, hes], fun j hj => (hend j hj).1, fun j hj => (hend j hj).2⟩) hfree
      exact ⟨u', w', rom, ρ', .inl h1, h2, by simpa [OR.eff, hgA, hgU, hgN, lkN] using h3⟩
    · -- to the block's end
      cases h
      refine does_run fun x hx' hchk hf => ?_
      simp only [OR.eff, Bool.and_eq_true, decide_eq_true_eq] at hchk
      obtain ⟨⟨hc1, hc2⟩, hc4⟩ := hchk
      have hfree := hf nid (Nat.le_refl _) (by simp [OR.eff])
      obtain ⟨_, q2⟩ := LRel.take_drop hsz g1.2 off (by omega)
      obtain ⟨u', w', ρ', h1, h2, h3⟩ := core hc1 (l.drop off) (cs.drop (off * k'.size)) base len cap (setF hg id none) e1 (hR.drop id) (hL.drop id) (fun _ _ h => Own.drop h) (nohg id)
        (by simp; omega) q2
        (by
          by_cases h0 : len = 0
          · exact .inl (by rw [List.drop_eq_nil_iff]; omega)
          · refine .inr ⟨r0.b, r0.o + off * k'.size, by rw [e2 (by omega), hes], fun j v hj => ?_⟩
            rw [List.getElem?_drop] at hj
            rw [Nat.add_assoc]
            exact g3 _ v hj)
        hc4 (fun _ hne => ⟨r0.b, r0.o + off * k'.size, by rw [e2 hne, hes], fun j hj => (hend j hj).1, fun j hj => (hend j hj).2⟩) hfree
      exact ⟨u', w', rom, ρ', .inl h1, h2, by simpa [OR.eff, hgA, hgU, hgN, lkN] using h3⟩
  · cases h

theorem appendA_ok {o : Oper} {a : Act} (hΓ : TabOK P Γ) (hR : Rel rom ρ hg w) (hL : Lnk ρ hg lk) {st xt ty : Nat} {d' : TypeDesc} (hxt : P.underlying xt = some d') (hd' : ∀ k, d' ≠ .int k)
    {x y : AC} {u v : Value} {r : OR} (h : appendA hg nid Γ st x y = some r) (hx : CRel rom ρ x u) (hy : CRel rom ρ y v)
    (hrun : ∀ z w', (Builtin.append_ #[st, xt] ty #[u, v]).run P w = .ok z w' → (execOp a.eval o).run P w = .ok (.value z) w') : Does P o a w rom ρ hg lk nid r := by
  unfold appendA at h
  split at h <;> try (cases h; done)
  rename_i e hd
  have hst := tdesc_ok hΓ hd
  simp only [DOK] at hst
  split at h <;> try (cases h; done)
  rename_i ti hti
  split at h <;> try (cases h; done)
  rename_i k hk
  split at h <;> try (cases h; done)
  rename_i ys c ids hys
  have hT := hΓ e ti hti
  obtain ⟨hks, ⟨p0, z, hi, hz, hzr⟩, _⟩ := hT.ek k hk
  obtain ⟨p, hi', hps, hpb, _⟩ := hT.info
  rw [hi] at hi'
  cases hi'
  have hks' : k.size = p0.size := by rw [hks, hps]
  have hzl : z.cells.size = k.size := by
    have := EK.Rel.length (hzr (fun _ _ => none))
    simpa using this
  have hszr : (sizeOf e).run P w = .ok k.size w := by simp [sizeOf, typeInfo, hi, hks']
  refine appendY_ok hR hL h hx fun hc => ?_
  exact append_core (lk := lk) (nid := nid) (ty := ty) hR (source_content hR hst hxt hd' hys hc hy hi hks' hz hzl hszr) hi hks' hz hzl hpb hszr hrun

theorem appendZ_ok {o : Oper} {a : Act} (hΓ : TabOK P Γ) (hR : Rel rom ρ hg w) (hL : Lnk ρ hg lk) {st xt ty : Nat} {ki ki' : IntKind} (hxt : P.underlying xt = some (.int ki))
    {x : AC} {u : Value} {n : Int} {r : OR} (h : appendZ hg nid Γ st x n = some r) (hx : CRel rom ρ x u)
    (hrun : ∀ z w', (Builtin.append_ #[st, xt] ty #[u, .int ki' n]).run P w = .ok z w' → (execOp a.eval o).run P w = .ok (.value z) w') : Does P o a w rom ρ hg lk nid r := by
  unfold appendZ at h
  split at h <;> try (cases h; done)
  rename_i e hd
  have hst := tdesc_ok hΓ hd
  simp only [DOK] at hst
  split at h <;> try (cases h; done)
  rename_i ti hti
  split at h <;> try (cases h; done)
  rename_i k hk
  have hT := hΓ e ti hti
  obtain ⟨hks, ⟨p0, z, hi, hz, hzr⟩, _⟩ := hT.ek k hk
  obtain ⟨p, hi', hps, hpb, _⟩ := hT.info
  rw [hi] at hi'
  cases hi'
  have hks' : k.size = p0.size := by rw [hks, hps]
  have hzl : z.cells.size = k.size := by
    have := EK.Rel.length (hzr (fun _ _ => none))
    simpa using this
  have hszr : (sizeOf e).run P w = .ok k.size w := by simp [sizeOf, typeInfo, hi, hks']
  refine appendY_ok hR hL h hx fun hc => ?_
  simp only [Bool.and_eq_true, decide_eq_true_eq] at hc
  exact append_core (lk := lk) (nid := nid) (ty := ty) hR (source_zeros hst hxt hi hks' hz hzl hszr hzr hc.1 (by rw [hpb]; exact hc.2)) hi hks' hz hzl hpb hszr hrun


theorem glen_arr {k : EK} {n : Option Nat} {l l' : List k.T} {m : Nat} (h : glen (.arr k n l) m) (hl : l'.length = l.length) : glen (.arr k n l') m := by
  cases n with
  | none => simp only [glen] at h ⊢; omega
  | some _ => trivial

theorem width_arr (k : EK) (n : Option Nat) (l l' : List k.T) : (Seg.arr k n l).width = (Seg.arr k n l').width := by cases n <;> rfl

/-- copy. -/
theorem copyA_ok {o : Oper} {a : Act} (hΓ : TabOK P Γ) (hR : Rel rom ρ hg w) (hL : Lnk ρ hg lk) {dt xt ty : Nat} {x y : AC} {u v : Value} {r : OR} (h : copyA hg Γ dt x y = some r) (hx : CRel rom ρ x u) (hy : CRel rom ρ y v)
    (hrun : ∀ z w', (Builtin.copy_ #[dt, xt] ty #[u, v]).run P w = .ok z w' → (execOp a.eval o).run P w = .ok (.value z) w') : Does P o a w rom ρ hg lk nid r := by
  unfold copyA at h
  split at h <;> try (cases h; done)
  rename_i e hd
  have hst := tdesc_ok hΓ hd
  simp only [DOK] at hst
  split at h <;> try (cases h; done)
  rename_i sz hsz0
  have hszr := run_tsize hΓ hsz0 w
  split at h <;> try (cases h; done)
  rename_i id esz off len cp k l hown
  split at h <;> try (cases h; done)
  rename_i ys c ids hys
  split at h <;> try (cases h; done)
  rename_i k2 n l2 hid2
  split at h <;> try (cases h; done)
  rename_i hesz
  cases h
  -- the destination
  have hdst : ∃ (n' : Option Nat) (r0 : RE) (base : Option Addr) (cap : Nat), hg id = some (.arr k n' l) ∧ esz = k.size ∧ ρ id = some r0 ∧ u = .slice base len cap ∧ (len ≠ 0 → base = some ⟨r0.b, r0.o + off * k.size, none⟩) := by
    unfold ownSl at hown
    split at hown
    · split at hown <;> try (cases hown; done)
      rename_i hid
      split at hown <;> try (cases hown; done)
      rename_i he
      cases hown
      obtain ⟨r0, base, cap, hr, e1, e2, e3, e4⟩ := hx
      obtain ⟨r', hr', hb⟩ := hR.blk id _ hid
      rw [hr] at hr'
      cases hr'
      have := hb.len
      simp only [glen] at this
      exact ⟨_, r0, base, cap, hid, he, hr, by rw [e1, this], fun hne => by rw [e2 (by omega)]; simp⟩
    · split at hown <;> try (cases hown; done)
      rename_i hid
      split at hown <;> try (cases hown; done)
      rename_i he
      cases hown
      obtain ⟨r0, base, cap, hr, e1, e2, e3, e4, e5⟩ := hx
      exact ⟨_, r0, base, cap, hid, he, hr, e1, fun hne => by rw [e2 (by omega), he]⟩
    · cases hown
  obtain ⟨n', r0, base, cap, hid, hes, hr, e1, e2⟩ := hdst
  have hnn : k2 = k ∧ n = n' := by rw [hid] at hid2; cases hid2; exact ⟨rfl, rfl⟩
  obtain ⟨hk2, hnn⟩ := hnn
  subst hnn
  have hsz : ∀ x c, EK.Rel rom k x c → c.length = k.size := fun x c hx => EK.Rel.length hx
  refine does_run fun x hx' hchk hf => ?_
  simp only [OR.eff, Bool.and_eq_true, decide_eq_true_eq] at hchk
  obtain ⟨hc1, hc2⟩ := hchk
  obtain ⟨q1, cs, q2, q3, q4⟩ := content_ok hR hys hc1 hy
  have hcl := LRel.length hsz q2
  have hm1 : min ys.length len ≤ ys.length := Nat.min_le_left _ _
  have hm2 : min ys.length len ≤ len := Nat.min_le_right _ _
  have hq3 := q3 (min ys.length len) hm1
  have hks : k.size = sz := by rw [← hes, hesz]
  let nn := min ys.length len
  let c2 := cs.take (nn * k.size)
  have hc2l : c2.length = nn * k.size := by
    have := Nat.mul_le_mul_right k.size hm1
    simp only [c2, List.length_take, hcl]
    exact Nat.min_eq_left this
  obtain ⟨hyt, _⟩ := LRel.take_drop hsz q2 nn hm1
  have hstore := aft_store (p := off * k.size) (cs := c2) (g' := .arr k n (l.take off ++ ys.take nn ++ l.drop (off + nn))) hR hL hid hr (fun old ho => by
    obtain ⟨o1, o2⟩ := ho
    have hol := LRel.length hsz o2
    have hoff : off * k.size + nn * k.size ≤ l.length * k.size := by rw [← Nat.add_mul]; exact Nat.mul_le_mul_right _ (by omega)
    refine ⟨by rw [hc2l, hol]; exact hoff, ⟨fun m hm => ?_, ?_⟩⟩
    · have := o1 m hm
      simp [nn]; omega
    · obtain ⟨a1, _⟩ := LRel.take_drop hsz o2 off (by omega)
      obtain ⟨_, b2⟩ := LRel.take_drop hsz o2 (off + nn) (by omega)
      have := LRel.append (LRel.append a1 hyt) b2
      rw [Nat.add_mul] at this
      rw [hc2l]
      exact this) (by
    obtain ⟨r', hr', hb⟩ := hR.blk id _ hid
    rw [hr] at hr'
    cases hr'
    exact glen_arr hb.len (by simp [nn]; omega)) (width_arr k n _ _) rfl rfl
  obtain ⟨s1, s2, s3, s4⟩ := hstore
  have hone : ∀ v ∈ c2, v.oneCell' = true := fun v hv => q4 v (List.mem_of_mem_take hv)
  have hst2 := run_storeCells_cells (P := P) r0.b (r0.o + off * k.size) c2 0 w (fun j hj => by simpa using (s4 j hj).1) (fun j hj => by simpa using frozen_of_frz (s4 j hj).2 (s4 j hj).1) hone
  have hrun0 : (Builtin.copy_ #[dt, xt] ty #[u, v]).run P w = .ok (goInt (nn : Nat)) (w.setCells r0.b (r0.o + off * k.size) c2) := by
    rw [e1]
    have hmm : Nat.min ys.length len = nn := rfl
    have hszr' : (sizeOf e).run P w = .ok k.size w := by rw [hks]; exact hszr
    have hq3' : (Builtin.firstCells k.size nn v).run P w = .ok c2.toArray w := hq3
    have hshape : (Builtin.copy_ #[dt, xt] ty #[.slice base len cap, v]).run P w = ((match base with | some a => storeCells a c2 | none => pure () : Sem Unit).run P w).andThen fun _ w' => .ok (goInt (nn : Nat)) w' := by
      unfold Builtin.copy_
      simp only [List.getElem?_toArray, List.getElem?_cons_zero, List.getElem?_cons_succ, Sem.run_bind, run_underlying hst, Result.andThen_ok]
      rw [q1]
      simp only [Result.andThen_ok]
      rw [hmm, hszr']
      simp only [Result.andThen_ok]
      rw [hq3']
      cases base <;> simp
    rw [hshape]
    by_cases h0 : len = 0
    · have hn0 : nn = 0 := by omega
      have hc0 : c2 = [] := List.length_eq_zero_iff.1 (by rw [hc2l, hn0]; simp)
      rw [hc0]
      cases base <;> simp [storeCells, World.setCells]
    · have hb := e2 h0
      subst hb
      simp only [Nat.add_zero] at hst2
      simp only [hst2, Result.andThen_ok]
  refine ⟨_, _, rom, ρ, .inl (hrun _ _ hrun0), rfl, ?_⟩
  exact ⟨s1, s2, s3, fun _ h _ => h⟩

end
end Go.Rf

set_option linter.unusedVariables false
set_option linter.unusedSimpArgs false
set_option linter.unusedSectionVars false
namespace Go.Rf
open Go

theorem wrap64_id {n : Int} (h0 : 0 ≤ n) (h1 : n < 9223372036854775808) : IntKind.i64.wrap n = n := by
  rw [← wrapF_eq]; simp only [ifF_i64]; split <;> omega

/-- Cells set one by one. -/
theorem foldl_set (off : Nat) : ∀ (vs : List Value) (j0 : Nat) (cs : Array Value), off + j0 + vs.length ≤ cs.size →
    ((vs.zipIdx j0).foldl (fun (cs : Array Value) (p : Value × Nat) => cs.setIfInBounds (off + p.2) p.1) cs).toList = cs.toList.take (off + j0) ++ vs ++ cs.toList.drop (off + j0 + vs.length)
  | [], j0, cs, h => by simp
  | v :: r, j0, cs, h => by
    simp only [List.zipIdx_cons, List.foldl_cons]
    simp only [List.length_cons] at h
    rw [foldl_set off r (j0 + 1) _ (by simp; omega)]
    have hlt : off + j0 < cs.toList.length := by simp; omega
    simp only [Array.toList_setIfInBounds, List.length_cons]
    rw [List.set_eq_take_append_cons_drop, if_pos hlt]
    have e1 : (cs.toList.take (off + j0) ++ v :: cs.toList.drop (off + j0 + 1)).take (off + (j0 + 1)) = cs.toList.take (off + j0) ++ [v] := by
      rw [List.take_append, List.take_of_length_le (by simp; omega)]
      congr 1
      have : off + (j0 + 1) - (cs.toList.take (off + j0)).length = 1 := by
        simp only [List.length_take]; omega
      rw [this]; simp
    have e2 : (cs.toList.take (off + j0) ++ v :: cs.toList.drop (off + j0 + 1)).drop (off + (j0 + 1) + r.length) = cs.toList.drop (off + j0 + (r.length + 1)) := by
      rw [List.drop_append, List.drop_of_length_le (by simp; omega), List.nil_append]
      have : off + (j0 + 1) + r.length - (cs.toList.take (off + j0)).length = r.length + 1 := by
        simp only [List.length_take]; omega
      rw [this, List.drop_succ_cons, List.drop_drop]
      congr 1
      omega
    rw [e1, e2]
    simp

theorem foldl_setA (off : Nat) (vs : Array Value) (cs : Array Value) (h : off + vs.size ≤ cs.size) :
    (vs.zipIdx.foldl (fun cs (c, j) => cs.setIfInBounds (off + j) c) cs).toList = cs.toList.take off ++ vs.toList ++ cs.toList.drop (off + vs.toList.length) := by
  have := foldl_set off vs.toList 0 cs (by simpa using h)
  rw [← Array.foldl_toList, Array.toList_zipIdx]
  simpa using this

section
variable {P : Program} {Γ : Tab} {rom : Rom} {ρ : RM} {w w' : World} {hg : Nat → Option Seg} {lk : Nat → Bool} {nid : Nat}

/-- The operands of a literal. -/
def PsRel (rom : Rom) (ρ : RM) : List (Nat × TV) → List (Nat × Value) → Prop := R2 fun a b => a.1 = b.1 ∧ TVRel rom ρ a.2 b.2

theorem ofSegs_tv {k : EK} {tv : TV} {s : List Seg} {x : k.T} {v : Value} (hs : tv.segs? = some s) (hk : k.ofSegs s = some (x, [])) (hv : TVRel rom ρ tv v) : EK.Rel rom k x v.cells.toList := by
  have hcs := segs_of_TV hs (ofSegs_solid hk rfl) hv
  obtain ⟨c, d, e, h1, h2⟩ := EK.ofSegs_rel hk hcs
  simp only [LRel] at h2
  subst h2
  simp at e
  rw [e]; exact h1

theorem fill_k {k : EK} : ∀ (ps : List (Nat × TV)) (pv : List (Nat × Value)) (l l' : List k.T) (cs : Array Value), PsRel rom ρ ps pv → partsK k l ps = some l' → LRel (EK.Rel rom k) l cs.toList →
    ∃ cs', Instr.fill (fun i => some (i * k.size, k.size)) cs pv = some cs' ∧ LRel (EK.Rel rom k) l' cs'.toList ∧ l'.length = l.length
  | [], [], l, l', cs, _, h, hr => by simp [partsK] at h; subst h; exact ⟨cs, rfl, hr, rfl⟩
  | (i, tv) :: ps, (i', v) :: pv, l, l', cs, ⟨⟨he, hv⟩, hps⟩, h, hr => by
    simp only at he hv
    subst he
    simp only [partsK] at h
    split at h <;> try (cases h; done)
    rename_i s hs
    split at h <;> try (cases h; done)
    rename_i x hx
    split at h <;> try (cases h; done)
    rename_i hi
    have hsz : ∀ x c, EK.Rel rom k x c → c.length = k.size := fun x c hx => EK.Rel.length hx
    have hk := ofSegs_tv hs hx hv
    have hkl := hsz _ _ hk
    have hcl := LRel.length hsz hr
    have hset := LRel.set hsz hr i x _ hi hk
    have hle : i * k.size + k.size ≤ l.length * k.size := by
      have : (i + 1) * k.size ≤ l.length * k.size := Nat.mul_le_mul_right _ hi
      rwa [Nat.add_mul, Nat.one_mul] at this
    have hle' : i * k.size + v.cells.size ≤ cs.size := by
      have e1 : v.cells.size = k.size := by simpa using hkl
      have e2 : cs.size = l.length * k.size := by simpa using hcl
      omega
    have hfold := foldl_setA (i * k.size) v.cells cs hle'
    rw [hkl] at hfold
    rw [← hfold] at hset
    obtain ⟨cs', h1, h2, h3⟩ := fill_k ps pv (l.set i x) l' _ hps h hset
    refine ⟨cs', ?_, h2, by simpa using h3⟩
    unfold Instr.fill
    have e1 : v.cells.size = k.size := by simpa using hkl
    have e2 : cs.size = l.length * k.size := by simpa using hcl
    simp only []
    split
    · rename_i hh
      exfalso
      simp only [Bool.or_eq_true, decide_eq_true_eq] at hh
      rcases hh with hh | hh
      · exact hh e1
      · omega
    · exact h1
  | [], _ :: _, _, _, _, h, _, _ => h.elim
  | _ :: _, [], _, _, _, h, _, _ => h.elim

theorem makeSliceA_ok {o : Oper} {a : Act} (hΓ : TabOK P Γ) (hR : Rel rom ρ hg w) (hL : Lnk ρ hg lk) {t : Nat} {same : Bool} {l c : Int} {k1 k2 : IntKind} {r : OR} (h : makeSliceA nid Γ t same l c = some r)
    (hsame : same = true → l = c)
    (hrun : ∀ z w', (Instr.makeSlice t (.int k1 l) (.int k2 c)).run P w = .ok z w' → (execOp a.eval o).run P w = .ok (.value z) w') : Does P o a w rom ρ hg lk nid r := by
  unfold makeSliceA at h
  split at h <;> try (cases h; done)
  rename_i e hd
  have hst := tdesc_ok hΓ hd
  simp only [DOK] at hst
  split at h <;> try (cases h; done)
  rename_i ti hti
  split at h <;> try (cases h; done)
  rename_i k hk
  cases h
  have hT := hΓ e ti hti
  obtain ⟨hks, ⟨p0, z, hi, hz, hzr⟩, _⟩ := hT.ek k hk
  obtain ⟨p, hi', hps, hpb, _⟩ := hT.info
  rw [hi] at hi'
  cases hi'
  have hks' : k.size = p0.size := by rw [hks, hps]
  refine does_run fun x hx' hchk hf => ?_
  have hfree := hf nid (Nat.le_refl _) (by simp [OR.eff])
  have hb : 0 ≤ l ∧ l ≤ c ∧ fits ti.bytes c.toNat = true := by
    simp only [OR.eff] at hchk
    cases same with
    | true =>
      have := hsame rfl
      subst this
      simp only [if_true, Bool.and_eq_true, decide_eq_true_eq] at hchk
      exact ⟨hchk.1, Int.le_refl _, hchk.2⟩
    | false =>
      simp only [Bool.false_eq_true, if_false, Bool.and_eq_true, decide_eq_true_eq] at hchk
      exact ⟨hchk.1.1, hchk.1.2, hchk.2⟩
  obtain ⟨hl0, hlc, hfit⟩ := hb
  obtain ⟨f1, f2, f3, f4⟩ := fits_ok hfit
  have hcl : c ≤ 35184372088832 := by omega
  have hw1 := wrap64_id hl0 (by omega)
  have hw2 := wrap64_id (n := c) (by omega) (by omega)
  have hbig : ¬ (p0.bytes : Int) * c > 2 ^ 48 := by
    rw [hpb]
    have e1 : ((c.toNat : Nat) : Int) = c := by omega
    have : ((c.toNat * ti.bytes : Nat) : Int) ≤ 35184372088832 := by omega
    rw [Int.natCast_mul, e1, Int.mul_comm] at this
    omega
  let n := c.toNat * k.size
  let zz : Array Value := if n = 0 then #[] else z.cells
  let cells : Array Value := (Array.range n).map (fun i => zz[i % zz.size]!)
  have hzero : (if n = 0 then (pure #[] : Sem (Array Value)) else do pure (← zeroValue e).cells).run P w = .ok zz w := by
    by_cases h0 : n = 0
    · simp [h0, zz]
    · simp [h0, zz, zeroValue, typeInfo, hi, hz]
  have hrun0 : (Instr.makeSlice t (.int k1 l) (.int k2 c)).run P w = .ok (.slice (some ⟨w.heap.size, 0, none⟩) l.toNat c.toNat) (w.alloc (.cells cells e)) := by
    unfold Instr.makeSlice
    simp only [Sem.run_bind, run_underlying hst, Result.andThen_ok, asInt, asIntOf, Sem.run_pure, typeInfo, run_program, hi, hw1, hw2]
    have hcond : ((c < 0 || (p0.bytes : Int) * c > 2 ^ 48) || l < 0 || l > c) = false := by
      simp only [Bool.or_eq_false_iff, decide_eq_false_iff_not]
      exact ⟨⟨⟨by omega, hbig⟩, by omega⟩, by omega⟩
    have hsz : (sizeOf e).run P w = .ok k.size w := by simp [sizeOf, typeInfo, hi, hks']
    simp only [Sem.run_ite, Sem.run_bind, hcond, Bool.false_eq_true, if_false, Sem.run_pure, Result.andThen_ok, run_askRoom, hsz]
    by_cases h0 : c.toNat * k.size = 0
    · rw [if_pos h0]
      simp [newRow, cells, n, zz, h0]
    · rw [if_neg h0]
      simp [newRow, zeroValue, typeInfo, hi, hz, cells, n, zz, h0]
  refine ⟨_, _, rom, setF ρ nid (some (.mkP w.heap.size 0 n l.toNat)), .inl (hrun _ _ hrun0), slw_new (rom := rom) (fun _ => rfl) (by omega) (Nat.le_refl _), ?_⟩
  have hrel : LRel (EK.Rel rom k) (List.replicate l.toNat k.dflt) (List.replicate l.toNat z.cells.toList).flatten := LRel.replicate (hzr rom) _
  have hzl : z.cells.toList.length = k.size := EK.Rel.length (hzr (fun _ _ => none))
  have hfl := LRel.length (fun x c hx => EK.Rel.length (rom := rom) hx) hrel
  simp only [List.length_replicate] at hfl
  have hmul : l.toNat * k.size ≤ n := Nat.mul_le_mul_right _ (by omega)
  have haft := arr_aft (nid := nid) (l := List.replicate l.toNat k.dflt) (ext := n) hR hL hrel (grown_alloc w (.cells cells e)) (by omega)
    (fun j v hj => by
      rw [World.cell?_alloc_new]
      have hlt := (List.getElem?_eq_some_iff.1 hj).1
      have hg' := flat_get _ _ _ hj
      have hn0 : n ≠ 0 := by omega
      have hzz : zz = z.cells := by simp [zz, hn0]
      show cells[j]? = some v
      simp only [cells, hzz]
      exact range_get (by omega) hg')
    (fun j hj => alloc_there w cells e j (by simpa [cells] using hj)) hfree
  simp only [List.length_replicate] at haft
  simpa [OR.eff, hgA, hgU, hgN, lkN] using haft

theorem R2.replicate {α β : Type} {R : α → β → Prop} {a : α} {b : β} (h : R a b) : ∀ n, R2 R (List.replicate n a) (List.replicate n b)
  | 0 => trivial
  | n + 1 => ⟨h, R2.replicate h n⟩

theorem R2.flat {α β : Type} {R : α → β → Prop} {a : List α} {b : List β} (h : R2 R a b) : ∀ n, R2 R (List.replicate n a).flatten (List.replicate n b).flatten
  | 0 => trivial
  | n + 1 => by simp only [List.replicate_succ, List.flatten_cons]; exact R2.append h (R2.flat h n)

theorem fill_c {sz : Nat} : ∀ (ps : List (Nat × TV)) (pv : List (Nat × Value)) (l l' : List AC) (cs : Array Value), PsRel rom ρ ps pv → partsC sz l ps = some l' → R2 (CRel rom ρ) l cs.toList →
    ∃ cs', Instr.fill (fun i => some (i * sz, sz)) cs pv = some cs' ∧ R2 (CRel rom ρ) l' cs'.toList ∧ l'.length = l.length
  | [], [], l, l', cs, _, h, hr => by simp [partsC] at h; subst h; exact ⟨cs, rfl, hr, rfl⟩
  | (i, tv) :: ps, (i', v) :: pv, l, l', cs, ⟨⟨he, hv⟩, hps⟩, h, hr => by
    simp only at he hv
    subst he
    simp only [partsC] at h
    split at h <;> try (cases h; done)
    rename_i s hsg
    split at h <;> try (cases h; done)
    rename_i ds hds
    split at h <;> try (cases h; done)
    rename_i hc
    simp only [Bool.and_eq_true, decide_eq_true_eq] at hc
    obtain ⟨hs, hdl, hi⟩ := hc
    have hcs := ones_of hds (segs_of_TV hsg (ones_solid hds hs) hv)
    have hlen := R2.length hr
    have e0 := R2.length hcs
    have e1 : v.cells.size = sz := by simp at e0; omega
    have hle : i * sz + v.cells.size ≤ cs.size := by rw [e1]; simp at hlen; omega
    have hfold := foldl_setA (i * sz) v.cells cs hle
    have hset : R2 (CRel rom ρ) (l.take (i * sz) ++ ds ++ l.drop (i * sz + sz)) (cs.toList.take (i * sz) ++ v.cells.toList ++ cs.toList.drop (i * sz + v.cells.toList.length)) := by
      have : v.cells.toList.length = sz := by simpa using e1
      rw [this]
      exact R2.append (R2.append (R2.take hr _) hcs) (R2.drop hr _)
    rw [← hfold] at hset
    obtain ⟨cs', h1, h2, h3⟩ := fill_c ps pv _ l' _ hps h hset
    refine ⟨cs', ?_, h2, by rw [h3]; simp; omega⟩
    unfold Instr.fill
    simp only []
    split
    · rename_i hh
      exfalso
      simp only [Bool.or_eq_true, decide_eq_true_eq] at hh
      rcases hh with hh | hh
      · exact hh e1
      · omega
    · exact h1
  | [], _ :: _, _, _, _, h, _, _ => h.elim
  | _ :: _, [], _, _, _, h, _, _ => h.elim

theorem buildSliceA_ok {o : Oper} {a : Act} (hΓ : TabOK P Γ) (hR : Rel rom ρ hg w) (hL : Lnk ρ hg lk) {own : Bool} {t len : Nat} {ps : List (Nat × TV)} {pv : Array (Nat × Value)} {r : OR} (h : buildSliceA nid Γ own t len ps = some r)
    (hps : PsRel rom ρ ps pv.toList)
    (hrun : ∀ z w', (Instr.buildSlice t len pv).run P w = .ok z w' → (execOp a.eval o).run P w = .ok (.value z) w') : Does P o a w rom ρ hg lk nid r := by
  unfold buildSliceA at h
  split at h <;> try (cases h; done)
  rename_i e hd
  have hst := tdesc_ok hΓ hd
  simp only [DOK] at hst
  split at h <;> try (cases h; done)
  rename_i ti hti
  have hT := hΓ e ti hti
  split at h
  · rename_i r1 hb
    cases h
    unfold buildSliceK at hb
    split at hb <;> try (cases hb; done)
    rename_i k hk
    split at hb <;> try (cases hb; done)
    rename_i l hl
    cases hb
    obtain ⟨hks, ⟨p0, z, hi, hz, hzr⟩, _⟩ := hT.ek k hk
    obtain ⟨p, hi', hps', hpb, _⟩ := hT.info
    rw [hi] at hi'
    cases hi'
    have hks' : k.size = p0.size := by rw [hks, hps']
    have hsz : (sizeOf e).run P w = .ok k.size w := by simp [sizeOf, typeInfo, hi, hks']
    refine does_run fun x hx' hchk hf => ?_
    have hfree := hf nid (Nat.le_refl _) (by simp [OR.eff])
    have hle : len * k.size ≤ 16777216 := by simpa [OR.eff] using hchk
    let n := len * k.size
    let zz : Array Value := if n = 0 then #[] else z.cells
    let cells : Array Value := (Array.range n).map (fun i => zz[i % zz.size]!)
    have hzl : z.cells.toList.length = k.size := EK.Rel.length (hzr (fun _ _ => none))
    have hrel0 : LRel (EK.Rel rom k) (List.replicate len k.dflt) cells.toList := by
      have hrel : LRel (EK.Rel rom k) (List.replicate len k.dflt) (List.replicate len z.cells.toList).flatten := LRel.replicate (hzr rom) _
      have hfl := LRel.length (fun x c hx => EK.Rel.length (rom := rom) hx) hrel
      simp only [List.length_replicate] at hfl
      have : cells.toList = (List.replicate len z.cells.toList).flatten := by
        apply List.ext_getElem?
        intro j
        by_cases hj : j < n
        · have hn0 : n ≠ 0 := by omega
          have hzz : zz = z.cells := by simp [zz, hn0]
          obtain ⟨v, hv⟩ : ∃ v, (List.replicate len z.cells.toList).flatten[j]? = some v := ⟨_, List.getElem?_eq_getElem (by omega)⟩
          have := range_get (z := z.cells) (n := n) hj (flat_get _ _ _ hv)
          rw [hv]
          simp only [Array.getElem?_toList, cells, hzz]
          exact this
        · rw [List.getElem?_eq_none (by simp [cells]; omega), List.getElem?_eq_none (by omega)]
      rw [this]; exact hrel
    obtain ⟨cs', q1, q2, q3⟩ := fill_k ps pv.toList _ l cells hps hl hrel0
    have hrun0 : (Instr.buildSlice t len pv).run P w = .ok (.slice (some ⟨w.heap.size, 0, none⟩) len len) (w.alloc (.cells cs' e)) := by
      unfold Instr.buildSlice
      have hzero : (if len * k.size = 0 then (pure #[] : Sem (Array Value)) else do pure (← zeroValue e).cells).run P w = .ok zz w := by
        by_cases h0 : len * k.size = 0
        · simp [h0, zz, n]
        · simp [h0, zz, n, zeroValue, typeInfo, hi, hz]
      simp only [Sem.run_bind, run_underlying hst, Result.andThen_ok, hsz, Sem.run_ite]
      rw [if_neg (by omega)]
      simp only [Sem.run_pure, Result.andThen_ok]
      have q1' : Instr.fill (fun i => some (i * k.size, k.size)) ((Array.range (len * k.size)).map (fun i => zz[i % zz.size]!)) pv.toList = some cs' := q1
      by_cases h0 : len * k.size = 0
      · rw [if_pos h0]
        simp only [zz, n, h0, if_true] at q1'
        simp only [Sem.run_pure, Result.andThen_ok, h0]
        rw [q1']
        simp [newRow]
      · rw [if_neg h0]
        simp only [zz, n, h0, if_false] at q1'
        simp only [zeroValue, typeInfo, Sem.run_bind, run_program, hi, hz, Sem.run_pure, Result.andThen_ok]
        rw [q1']
        simp [newRow]
    have hcl := LRel.length (fun x c hx => EK.Rel.length (rom := rom) hx) q2
    have hll : l.length = len := by simpa using q3
    have haft := arr_aft (nid := nid) (l := l) (ext := cs'.toList.length) hR hL q2 (grown_alloc w (.cells cs' e)) (Nat.le_refl _)
      (fun j v hj => by rw [World.cell?_alloc_new]; simpa using hj) (fun j hj => alloc_there w cs' e j (by simpa using hj)) hfree
    refine ⟨_, _, rom, setF ρ nid (some (.mkP w.heap.size 0 cs'.toList.length l.length)), .inl (hrun _ _ hrun0), ?_, by simpa [OR.eff, hgA, hgU, hgN, lkN] using haft⟩
    cases own with
    | true =>
      have := slw_new (rom := rom) (ρ := ρ) (id := nid) (esz := k.size) (b := w.heap.size) (o := 0) (ext := cs'.toList.length) (n := l.length) (cap := len) (base := some ⟨w.heap.size, 0, none⟩) (fun _ => rfl) (by omega) (by rw [hcl, hll]; exact Nat.le_refl _)
      rw [hll] at this ⊢
      exact this
    | false =>
      refine ⟨.mkP w.heap.size 0 cs'.toList.length l.length, _, _, setF_same _ _ _, rfl, fun _ => by simp, Nat.le_refl _, ?_, fun n hn => by cases hn; rfl⟩
      simp only [hcl, hll, Nat.zero_add]
      exact Nat.le_refl _
  · split at h <;> try (cases h; done)
    rename_i zs hzs
    split at h <;> try (cases h; done)
    rename_i l hl
    split at h <;> try (cases h; done)
    rename_i hsz1
    simp only [Bool.and_eq_true, beq_iff_eq, decide_eq_true_eq] at hsz1
    obtain ⟨hsz1, hpos⟩ := hsz1
    cases h
    refine does_run fun x hx' hchk hf => ?_
    have hfree := hf nid (Nat.le_refl _) (by simp [OR.eff])
    have hle : len * ti.size ≤ 16777216 := by simpa [OR.eff] using hchk
    obtain ⟨p, hi, hps', hpb, hzz⟩ := hT.info
    obtain ⟨z, hz, hzr⟩ := hzz (by intro h0; rw [h0] at hzs; simp [onesOf] at hzs; subst hzs; simp at hsz1; omega)
    have hsz : (sizeOf e).run P w = .ok ti.size w := by simp [sizeOf, typeInfo, hi, hps']
    have hz1 := ones_of hzs (hzr rom ρ)
    have hzl := R2.length hz1
    let n := len * ti.size
    let zz : Array Value := if n = 0 then #[] else z.cells
    let cells : Array Value := (Array.range n).map (fun i => zz[i % zz.size]!)
    have hrel0 : R2 (CRel rom ρ) (List.replicate len zs).flatten cells.toList := by
      have hrel := R2.flat hz1 len
      have hfl := R2.length hrel
      simp only [List.length_flatten, List.map_replicate, List.sum_replicate_nat] at hfl
      have : cells.toList = (List.replicate len z.cells.toList).flatten := by
        apply List.ext_getElem?
        intro j
        have hfl2 : (List.replicate len z.cells.toList).flatten.length = n := by
          simp only [List.length_flatten, List.map_replicate, List.sum_replicate_nat, n]
          rw [← hzl, hsz1]
        by_cases hj : j < n
        · have hn0 : n ≠ 0 := by omega
          have hzz : zz = z.cells := by simp [zz, hn0]
          obtain ⟨v, hv⟩ : ∃ v, (List.replicate len z.cells.toList).flatten[j]? = some v := ⟨_, List.getElem?_eq_getElem (by omega)⟩
          have := range_get (z := z.cells) (n := n) hj (flat_get _ _ _ hv)
          rw [hv]
          simp only [Array.getElem?_toList, cells, hzz]
          exact this
        · rw [List.getElem?_eq_none (by simp [cells]; omega), List.getElem?_eq_none (by omega)]
      rw [this]; exact hrel
    obtain ⟨cs', q1, q2, q3⟩ := fill_c ps pv.toList _ l cells hps hl hrel0
    have hrun0 : (Instr.buildSlice t len pv).run P w = .ok (.slice (some ⟨w.heap.size, 0, none⟩) len len) (w.alloc (.cells cs' e)) := by
      unfold Instr.buildSlice
      simp only [Sem.run_bind, run_underlying hst, Result.andThen_ok, hsz, Sem.run_ite]
      rw [if_neg (by omega)]
      simp only [Sem.run_pure, Result.andThen_ok]
      have q1' : Instr.fill (fun i => some (i * ti.size, ti.size)) ((Array.range (len * ti.size)).map (fun i => zz[i % zz.size]!)) pv.toList = some cs' := q1
      by_cases h0 : len * ti.size = 0
      · rw [if_pos h0]
        simp only [zz, n, h0, if_true] at q1'
        simp only [Sem.run_pure, Result.andThen_ok, h0]
        rw [q1']
        simp [newRow]
      · rw [if_neg h0]
        simp only [zz, n, h0, if_false] at q1'
        simp only [zeroValue, typeInfo, Sem.run_bind, run_program, hi, hz, Sem.run_pure, Result.andThen_ok]
        rw [q1']
        simp [newRow]
    have hcl := R2.length q2
    have hll : l.length = len * ti.size := by
      rw [q3]
      simp only [List.length_flatten, List.map_replicate, List.sum_replicate_nat, hsz1]
    have haft := aft_new (nid := nid) (w' := w.alloc (.cells cs' e)) hR hL (grown_alloc w (.cells cs' e)) [(.acs l, false, cs'.toList, cs'.toList.length)]
      (fun id h1 h2 => by have : id = nid := (by simp at h2; omega); subst this; exact hfree)
      (fun x hx => by simp at hx; subst hx; exact q2)
      ⟨⟨rfl, Nat.le_refl _⟩, fun j v hj => by rw [Nat.zero_add, World.cell?_alloc_new]; simpa using hj, trivial⟩
      (fun j hj => alloc_there w cs' e j (by simpa [sumE] using hj)) ⟨by simp, trivial⟩
    refine ⟨_, _, rom, _, .inl (hrun _ _ hrun0), ?_, by simpa [OR.eff, hgA, hgU, newOf] using haft⟩
    refine ⟨.mkP w.heap.size 0 cs'.toList.length l.length, _, _, by simp [placeN, gnum], rfl, fun _ => by simp, Nat.le_refl _, ?_, fun n hn => by cases hn; rfl⟩
    simp only [Nat.zero_add]
    rw [← hcl, hll]
    exact Nat.le_refl _

theorem segsPut_rel : ∀ (z p : List Seg) (j : Nat) (s : List Seg) (cs ds : List Value), segsPut z j p = some s → LRel (SegRel rom ρ) z cs → LRel (SegRel rom ρ) p ds →
    j + ds.length ≤ cs.length ∧ LRel (SegRel rom ρ) s (cs.take j ++ ds ++ cs.drop (j + ds.length))
  | z, [], 0, s, cs, ds, h, hz, hp => by
    have : s = z := by cases z <;> simp [segsPut] at h <;> first | exact h | exact h.symm
    subst this
    simp only [LRel] at hp
    subst hp
    simpa using hz
  | [], p, j + 1, s, cs, ds, h, hz, hp => by cases p <;> simp [segsPut] at h
  | [], q :: p, 0, s, cs, ds, h, hz, hp => by simp [segsPut] at h
  | g :: r, p, j + 1, s, cs, ds, h, ⟨c, d, e, h1, h2⟩, hp => by
    have h' : (match g.width with
      | none => none
      | some w => if w ≤ j + 1 then match segsPut r (j + 1 - w) p with | some l => some (g :: l) | none => none else none) = some s := by rw [← h]; cases p <;> rfl
    split at h' <;> try (cases h'; done)
    rename_i w hw
    split at h' <;> try (cases h'; done)
    rename_i hle
    split at h' <;> try (cases h'; done)
    rename_i l hl
    cases h'
    have hc := SegRel.width h1 hw
    obtain ⟨i1, i2⟩ := segsPut_rel r p (j + 1 - w) l d ds hl h2 hp
    subst e
    refine ⟨by simp; omega, c, _, ?_, h1, i2⟩
    rw [List.take_append, List.drop_append, List.take_of_length_le (by omega), List.drop_of_length_le (by omega), hc]
    simp only [List.nil_append, List.append_assoc]
    rw [show j + 1 + ds.length - w = j + 1 - w + ds.length by omega]
  | g :: r, q :: p, 0, s, cs, ds, h, ⟨c, d, e, h1, h2⟩, ⟨c', d', e', h1', h2'⟩ => by
    simp only [segsPut] at h
    split at h <;> try (cases h; done)
    rename_i w v hw hv
    split at h <;> try (cases h; done)
    rename_i hwv
    split at h <;> try (cases h; done)
    rename_i l hl
    cases h
    have hc := SegRel.width h1 hw
    have hc' := SegRel.width h1' hv
    obtain ⟨i1, i2⟩ := segsPut_rel r p 0 l d d' hl h2 h2'
    subst e; subst e'
    refine ⟨by simp; omega, c', _, ?_, h1', i2⟩
    simp only [List.take_zero, List.nil_append, Nat.zero_add, List.length_append, List.append_assoc]
    rw [List.drop_append, List.drop_of_length_le (by omega), List.nil_append]
    congr 3
    omega

theorem fill_fields {pl : Nat → Option (Nat × Nat)} {fs : List (Nat × Nat)} (hpl : ∀ i off ty sz, fs[i]? = some (off, ty) → tsize Γ ty = some sz → pl i = some (off, sz)) :
    ∀ (ps : List (Nat × TV)) (pv : List (Nat × Value)) (z s : List Seg) (cs : Array Value), PsRel rom ρ ps pv → fieldsPut Γ fs z ps = some s → LRel (SegRel rom ρ) z cs.toList →
    ∃ cs', Instr.fill pl cs pv = some cs' ∧ LRel (SegRel rom ρ) s cs'.toList
  | [], [], z, s, cs, _, h, hr => by simp [fieldsPut] at h; subst h; exact ⟨cs, rfl, hr⟩
  | (i, tv) :: ps, (i', v) :: pv, z, s, cs, ⟨⟨he, hv⟩, hps⟩, h, hr => by
    simp only at he hv
    subst he
    simp only [fieldsPut] at h
    split at h <;> try (cases h; done)
    rename_i off ty sg hf hsg
    split at h <;> try (cases h; done)
    rename_i wd sz hwd hsz
    split at h <;> try (cases h; done)
    rename_i hsol
    split at h <;> try (cases h; done)
    rename_i hws
    split at h <;> try (cases h; done)
    rename_i z' hz'
    subst hws
    have hcs := segs_of_TV hsg hsol hv
    have hlen := widths_len hwd hcs
    obtain ⟨q1, q2⟩ := segsPut_rel z sg off z' _ _ hz' hr hcs
    have e1 : v.cells.size = wd := by simpa using hlen
    have hle : off + v.cells.size ≤ cs.size := by simpa using q1
    have hfold := foldl_setA off v.cells cs hle
    rw [← hfold] at q2
    obtain ⟨cs', h1, h2⟩ := fill_fields hpl ps pv z' s _ hps h q2
    refine ⟨cs', ?_, h2⟩
    unfold Instr.fill
    rw [hpl i off ty wd hf hsz]
    simp only []
    split
    · rename_i hh
      exfalso
      simp only [Bool.or_eq_true, decide_eq_true_eq] at hh
      rcases hh with hh | hh
      · exact hh e1
      · omega
    · exact h1
  | [], _ :: _, _, _, _, h, _, _ => h.elim
  | _ :: _, [], _, _, _, h, _, _ => h.elim

theorem places_ok : ∀ (fs : List Field), (∀ f ∈ fs, P.cellsOf f.type ≠ 0) → ∃ pl, fs.mapM (fun f => (P.info? f.type).map fun i => (f.offset, i.size)) = some pl ∧ pl = fs.map (fun f => (f.offset, P.cellsOf f.type))
  | [], _ => ⟨[], rfl, rfl⟩
  | f :: fs, h => by
    obtain ⟨pl, h1, h2⟩ := places_ok fs (fun g hg => h g (by simp [hg]))
    have hf := h f (by simp)
    unfold Program.cellsOf at hf
    cases hp : P.info? f.type with
    | none => simp [hp] at hf
    | some p =>
      refine ⟨(f.offset, p.size) :: pl, ?_, ?_⟩
      · simp [List.mapM_cons, hp, h1]
      · subst h2
        simp [Program.cellsOf, hp]

theorem buildA_ok (hΓ : TabOK P Γ) {t : Nat} {ps : List (Nat × TV)} {pv : Array (Nat × Value)} {r : OR} (h : buildA Γ t ps = some r) (hps : PsRel rom ρ ps pv.toList) :
    ∃ v, (∀ x, r.k x = ⟨v, [], []⟩) ∧ ∃ z, (Instr.build t pv).run P w = .ok z w ∧ TVRel rom ρ v z := by
  unfold buildA at h
  split at h <;> try (cases h; done)
  rename_i ti hti
  have hT := hΓ t ti hti
  have hD := hT.desc
  obtain ⟨p, hi, hps', hpb, hzz⟩ := hT.info
  split at h
  · rename_i fs hd
    rw [hd] at hD
    obtain ⟨fields, hok, hfs, hnz⟩ := hD
    split at h
    · rename_i hz0
      split at h <;> try (cases h; done)
      rename_i hek
      cases h
      refine ⟨_, fun _ => rfl, ?_⟩
      obtain ⟨pl, hpl, hpl'⟩ := places_ok (P := P) fields.toList hnz
      obtain ⟨_, ⟨p2, z, hi2, hz, hzr⟩, _⟩ := hT.ek _ hek
      rw [hi] at hi2
      cases hi2
      obtain ⟨cs', q1, q2⟩ := fill_fields (Γ := Γ) (rom := rom) (ρ := ρ) (pl := (pl.toArray[·]?)) (fs := []) (fun i off ty sz h1 h2 => by simp at h1) [] pv.toList [] [] z.cells hps (by rfl) (hzr rom)
      refine ⟨.agg cs', run_build w t pv cs' ?_, cs'.toList, by simp, q2⟩
      unfold Program.built
      simp only [hi, hok, hz, hpl]
      exact q1
    rename_i g0 z0 hz0
    split at h <;> try (cases h; done)
    rename_i s hs
    cases h
    refine ⟨_, fun _ => rfl, ?_⟩
    obtain ⟨pl, hpl, hpl'⟩ := places_ok (P := P) fields.toList hnz
    obtain ⟨z, hz, hzr⟩ := hzz (by rw [hz0]; simp)
    rw [hz0] at hzr
    obtain ⟨cs', q1, q2⟩ := fill_fields (pl := (pl.toArray[·]?)) (fs := fs) (fun i off ty sz h1 h2 => by
      subst hfs
      simp only [List.getElem?_map, Option.map_eq_some_iff] at h1
      obtain ⟨fl, hfl, hfe⟩ := h1
      cases hfe
      obtain ⟨q, hq1, hq2⟩ := tsize_ok hΓ h2
      subst hpl'
      simp at hfl
      simp [hfl, Program.cellsOf, hq1, hq2]) ps pv.toList _ s z.cells hps hs (hzr rom ρ)
    refine ⟨.agg cs', run_build w t pv cs' ?_, cs'.toList, by simp, q2⟩
    unfold Program.built
    simp only [hi, hok, hz, hpl]
    exact q1
  · rename_i n e hd
    rw [hd] at hD
    simp only [DOK] at hD
    split at h <;> try (cases h; done)
    rename_i m k sz hek hsz
    split at h <;> try (cases h; done)
    rename_i hmn
    split at h <;> try (cases h; done)
    rename_i hks
    split at h <;> try (cases h; done)
    rename_i l hl
    cases h
    refine ⟨_, fun _ => rfl, ?_⟩
    obtain ⟨_, ⟨p2, z, hi2, hz, hzr⟩, _⟩ := hT.ek _ hek
    obtain ⟨pe, he1, he2⟩ := tsize_ok hΓ hsz
    obtain ⟨hz1, hz2⟩ := hzr rom
    obtain ⟨cs', q1, q2, q3⟩ := fill_k (ρ := ρ) ps pv.toList _ l z.cells hps hl hz2
    have hll : l.length = m := by simpa using q3
    refine ⟨.agg cs', run_build w t pv cs' ?_, cs'.toList, by simp, LRel.one ⟨fun m' hm' => by cases hm'; exact hll, q2⟩⟩
    unfold Program.built
    rw [hi2] at hi
    cases hi
    simp only [hi2, hD, hz, he1]
    rw [he2, ← hks]
    exact q1
  · cases h

end
end Go.Rf

set_option linter.unusedVariables false
set_option linter.unusedSimpArgs false
set_option linter.unusedSectionVars false
namespace Go.Rf
open Go

section
variable {P : Program} {Γ : Tab} {rom : Rom} {ρ : RM} {w w' : World} {hg hg1 : Nat → Option Seg} {lk : Nat → Bool} {nid : Nat}

/-- A new block of a new number, where others ended. -/
theorem aft_add {g : Seg} {r : RE} (hR1 : Rel rom ρ hg1 w') (hL1 : Lnk ρ hg1 lk) (hb : BRel rom ρ w' g r) (hf : ∀ b o, r.has b o → ¬ Own hg1 ρ b o ∧ rom b o = none)
    (tr : Tr rom ρ hg w rom ρ hg1 w') (hfresh : ∀ b o, r.has b o → b < w.heap.size → Own hg ρ b o) (hfree : hg1 nid = none ∧ ρ nid = none) :
    Aft rom ρ hg w rom (setF ρ nid (some r)) (setF hg1 nid (some g)) (setF lk nid false) w' nid 1 where
  rel := Rel.add hR1 hfree.2 hfree.1 hb hf
  lnk := by
    intro i r' g2 wd h1 h2 h3 h4
    by_cases hi0 : i = nid
    · subst hi0; simp at h1
    · rw [setF_ne _ _ hi0] at h1 h2 h3
      obtain ⟨q, r2, e1, e2, e3⟩ := hL1 i r' g2 wd h1 h2 h3 h4
      refine ⟨q, r2, ?_, e2, e3⟩
      by_cases hi1 : i + 1 = nid
      · rw [hi1] at e1; rw [hfree.2] at e1; cases e1
      · rw [setF_ne _ _ hi1]; exact e1
  tr := {
    rl := tr.rl
    hl := fun i r' h => by
      rw [setF_ne _ _ (by rintro rfl; rw [hfree.2] at h; cases h)]; exact h
    size := tr.size
    os := tr.os
    tape := tr.tape
    output := tr.output
    u1 := tr.u1
    u2 := tr.u2
    fresh := fun b o ho hb' => (Own.add ho).elim (fun h => tr.fresh b o h hb') (fun h => hfresh b o h hb')
    rfresh := tr.rfresh }
  dom := fun i h1 h2 => by rw [setF_ne _ _ (by omega)]; exact h1

/-- No rows. -/
theorem DRel.nil (w : World) (k : IntKind) (b o n : Nat) : DRel w k [] ⟨b, o, 0, n, fun _ _ => False, []⟩ where
  len := rfl
  ext := Nat.le_refl _
  main := fun i v h => by simp at h
  head := fun i x h => by simp at h
  row := fun i x h => by simp at h
  apart := fun i j _ b o len cap h => by simp at h
  there := fun b o h => h.elim
  out := fun b o h => h.elim

/-- Rows behind rows. -/
theorem DRel.join {k : IntKind} {l1 l2 : List (List Int)} {r1 r2 : RE} (h1 : DRel w k l1 r1) (h2 : DRel w k l2 r2) (hd : ∀ b o, r1.own b o → r2.own b o → False)
    (hc : ∀ b o, r1.own b o ∨ r2.own b o → w'.cell? ⟨b, o, none⟩ = w.cell? ⟨b, o, none⟩ ∧ frz w' b = frz w b) {b0 o0 ext n : Nat} (hext : (r1.hs ++ r2.hs).length ≤ ext)
    (hmain : ∀ i v, (r1.hs ++ r2.hs)[i]? = some v → w'.cell? ⟨b0, o0 + i, none⟩ = some v)
    (hout : ∀ b o, r1.own b o ∨ r2.own b o → ¬ (b0 = b ∧ o0 ≤ o ∧ o < o0 + ext)) :
    DRel w' k (l1 ++ l2) ⟨b0, o0, ext, n, fun b o => r1.own b o ∨ r2.own b o, r1.hs ++ r2.hs⟩ := by
  have n1 := h1.len
  -- what row a number names
  have at1 : ∀ {i : Nat}, i < l1.length → (r1.hs ++ r2.hs)[i]? = r1.hs[i]? ∧ (l1 ++ l2)[i]? = l1[i]? := fun {i} hi => ⟨List.getElem?_append_left (by omega), List.getElem?_append_left hi⟩
  have at2 : ∀ {i : Nat}, ¬ i < l1.length → (r1.hs ++ r2.hs)[i]? = r2.hs[i - l1.length]? ∧ (l1 ++ l2)[i]? = l2[i - l1.length]? := fun {i} hi =>
    ⟨by rw [List.getElem?_append_right (by omega), n1], List.getElem?_append_right (by omega)⟩
  -- the memory of a row
  have mem : ∀ {l : List (List Int)} {r : RE}, DRel w k l r → ∀ {i b o len cap t : Nat}, r.hs[i]? = some (Value.slice (some ⟨b, o, none⟩) len cap) → t < len → r.own b (o + t) := by
    intro l r h i b o len cap t hi ht
    have hlt := (List.getElem?_eq_some_iff.1 hi).1
    rw [h.len] at hlt
    have hl : l[i]? = some l[i] := List.getElem?_eq_getElem hlt
    obtain ⟨base, cap', e1, _, _⟩ := h.head i _ hl
    rw [hi] at e1
    cases e1
    exact (h.row i _ hl b o _ cap hi t _ (List.getElem?_eq_getElem ht)).2
  refine ⟨by simp [n1, h2.len], hext, hmain, fun i x hx => ?_, fun i x hx b o len cap hi t m hm => ?_, fun i j hij b o len cap hi o' len' cap' hj t t' ht ht' e => ?_, fun b o ho => ?_, fun b o ho => hout b o ho⟩
  · by_cases hi : i < l1.length
    · rw [(at1 hi).2] at hx; simp only [(at1 hi).1]; exact h1.head i x hx
    · rw [(at2 hi).2] at hx; simp only [(at2 hi).1]; exact h2.head _ x hx
  · by_cases hi0 : i < l1.length
    · rw [(at1 hi0).2] at hx; simp only [(at1 hi0).1] at hi
      obtain ⟨q1, q2⟩ := h1.row i x hx b o len cap hi t m hm
      exact ⟨by rw [(hc b (o + t) (.inl q2)).1]; exact q1, .inl q2⟩
    · rw [(at2 hi0).2] at hx; simp only [(at2 hi0).1] at hi
      obtain ⟨q1, q2⟩ := h2.row _ x hx b o len cap hi t m hm
      exact ⟨by rw [(hc b (o + t) (.inr q2)).1]; exact q1, .inr q2⟩
  · simp only at hi hj
    by_cases hi0 : i < l1.length
    · rw [(at1 hi0).1] at hi
      by_cases hj0 : j < l1.length
      · rw [(at1 hj0).1] at hj
        exact h1.apart i j hij b o len cap hi o' len' cap' hj t t' ht ht' e
      · rw [(at2 hj0).1] at hj
        exact hd b (o + t) (mem h1 hi ht) (by rw [e]; exact mem h2 hj ht')
    · rw [(at2 hi0).1] at hi
      by_cases hj0 : j < l1.length
      · rw [(at1 hj0).1] at hj
        exact hd b (o + t) (by rw [e]; exact mem h1 hj ht') (mem h2 hi ht)
      · rw [(at2 hj0).1] at hj
        exact h2.apart _ _ (by omega) b o len cap hi o' len' cap' hj t t' ht ht' e
  · rw [(hc b o ho).1, (hc b o ho).2]
    rcases ho with ho | ho
    · exact h1.there b o ho
    · exact h2.there b o ho

/-- The cells of a block of rows, as the model reads them. -/
theorem rows_read {k : IntKind} {l : List (List Int)} {r : RE} (h : DRel w k l r) {base : Option Addr} {cap : Nat} (hb : cap ≠ 0 → base = some ⟨r.b, r.o, none⟩) (hle : l.length ≤ cap) :
    (Builtin.firstCells 1 l.length (.slice base l.length cap)).run P w = .ok r.hs.toArray w := by
  by_cases h0 : l.length = 0
  · have : r.hs = [] := List.length_eq_zero_iff.1 (by rw [h.len]; exact h0)
    rw [this, h0]
    cases base with
    | none => simp [Builtin.firstCells]
    | some a => simpa [Builtin.firstCells] using run_loadN (P := P) (w := w) (a := a) (cs := []) (by simp) 0 (by simp)
  · rw [hb (by omega)]
    have := run_loadN (P := P) (w := w) (a := ⟨r.b, r.o, none⟩) (cs := r.hs) (fun j v hj => by rw [addr_add]; exact h.main j v hj) l.length (by rw [h.len]; exact Nat.le_refl _)
    rw [List.take_of_length_le (by rw [h.len]; exact Nat.le_refl _)] at this
    simpa [Builtin.firstCells] using this

theorem head_one {k : IntKind} {l : List (List Int)} {r : RE} (h : DRel w k l r) : ∀ v ∈ r.hs, v.oneCell' = true := by
  intro v hv
  obtain ⟨i, hi, e⟩ := List.mem_iff_getElem.1 hv
  have hi' : i < l.length := by rw [← h.len]; exact hi
  obtain ⟨base, cap, e1, _, _⟩ := h.head i _ (List.getElem?_eq_getElem hi')
  rw [List.getElem?_eq_getElem hi, e] at e1
  cases e1
  rfl

/-- Rows behind rows, in the model. 'hg1': the blocks without the old ones. -/
theorem appendD_core {o : Oper} {a : Act} {st xt ty e : TypeId} {u v : Value} {ke : IntKind} {p0 : TypeInfo} {z : Value} {bytes : Nat} {d' : TypeDesc}
    (hst : P.underlying st = some (.slice e)) (hxt : P.underlying xt = some d') (hd' : ∀ k, d' ≠ .int k)
    (hi : P.info? e = some p0) (hks' : 1 = p0.size) (hz : p0.zero = some z) (hzl : z.cells.size = 1) (hpb : p0.bytes = bytes)
    (hrun : ∀ z w', (Builtin.append_ #[st, xt] ty #[u, v]).run P w = .ok z w' → (execOp a.eval o).run P w = .ok (.value z) w')
    {l1 l2 : List (List Int)} {r1 r2 : RE} (h1 : DRel w ke l1 r1) (h2 : DRel w ke l2 r2) (hR : Rel rom ρ hg w) (hR1 : Rel rom ρ hg1 w) (hL1 : Lnk ρ hg1 lk) (hown : ∀ b o, Own hg1 ρ b o → Own hg ρ b o)
    (hf1 : ∀ b o, r1.has b o → Own hg ρ b o ∧ ¬ Own hg1 ρ b o ∧ rom b o = none) (hf2 : ∀ b o, r2.has b o → Own hg ρ b o ∧ ¬ Own hg1 ρ b o ∧ rom b o = none)
    (hdis : ∀ b o, r1.has b o → r2.has b o → False)
    {base base2 : Option Addr} {sCap cap2 : Nat} (hu : u = .slice base l1.length sCap) (hle1 : l1.length ≤ sCap) (hb1 : sCap ≠ 0 → base = some ⟨r1.b, r1.o, none⟩) (hx1 : sCap ≤ r1.ext)
    (ht1 : ∀ j, j < r1.ext → (w.cell? ⟨r1.b, r1.o + j, none⟩).isSome = true ∧ frz w r1.b = false)
    (hv : v = .slice base2 l2.length cap2) (hle2 : l2.length ≤ cap2) (hb2 : cap2 ≠ 0 → base2 = some ⟨r2.b, r2.o, none⟩)
    (hfit : fits bytes (l1.length + l2.length) = true) (hfree : hg1 nid = none ∧ ρ nid = none) :
    ∃ u' w' ρ', (execOp a.eval o).run P w = .ok (.value u') w' ∧ CRel rom ρ' (.slw nid 1) u' ∧
      Aft rom ρ hg w rom ρ' (setF hg1 nid (some (.deep ke (l1 ++ l2)))) (setF lk nid false) w' nid 1 := by
  have hsz : (sizeOf e).run P w = .ok 1 w := by simp [sizeOf, typeInfo, hi, ← hks']
  have hrd2 : ∀ {w0 : World}, DRel w0 ke l2 r2 → (Builtin.firstCells 1 l2.length v).run P w0 = .ok r2.hs.toArray w0 := fun h => by rw [hv]; exact rows_read h hb2 hle2
  have hlen2 : (Builtin.lenOf v).run P w = .ok l2.length w := by subst hv; simp [Builtin.lenOf]
  have n1 := h1.len
  have n2 := h2.len
  have hd : ∀ b o, r1.own b o → r2.own b o → False := fun b o p q => hdis b o (.inr p) (.inr q)
  have hfr : ∀ b o, r1.own b o ∨ r2.own b o → Own hg ρ b o ∧ ¬ Own hg1 ρ b o ∧ rom b o = none := fun b o h => h.elim (fun h => hf1 b o (.inr h)) (fun h => hf2 b o (.inr h))
  have t0 : Tr rom ρ hg w rom ρ hg1 w := Tr.stored rfl rfl rfl rfl hown (fun _ _ => rfl) (fun _ _ _ => ⟨rfl, rfl⟩)
  -- what is left to say of a new block
  have fin : ∀ {w' : World} {b0 o0 ext n cap : Nat} {base' : Option Addr}, (Builtin.append_ #[st, xt] ty #[u, v]).run P w = .ok (.slice base' (l1.length + l2.length) cap) w' →
      (cap ≠ 0 → base' = some ⟨b0, o0, none⟩) → l1.length + l2.length ≤ cap → cap ≤ ext → n = l1.length + l2.length →
      Rel rom ρ hg1 w' → Tr rom ρ hg w rom ρ hg1 w' →
      (∀ b o, r1.own b o ∨ r2.own b o → w'.cell? ⟨b, o, none⟩ = w.cell? ⟨b, o, none⟩ ∧ frz w' b = frz w b) →
      (∀ i v, (r1.hs ++ r2.hs)[i]? = some v → w'.cell? ⟨b0, o0 + i, none⟩ = some v) →
      (∀ b o, r1.own b o ∨ r2.own b o → ¬ (b0 = b ∧ o0 ≤ o ∧ o < o0 + ext)) →
      (∀ j, j < ext → (w'.cell? ⟨b0, o0 + j, none⟩).isSome = true ∧ frz w' b0 = false) →
      (∀ o', o0 ≤ o' → o' < o0 + ext → ¬ Own hg1 ρ b0 o' ∧ rom b0 o' = none ∧ (b0 < w.heap.size → Own hg ρ b0 o')) →
      ∃ u' w' ρ', (execOp a.eval o).run P w = .ok (.value u') w' ∧ CRel rom ρ' (.slw nid 1) u' ∧
        Aft rom ρ hg w rom ρ' (setF hg1 nid (some (.deep ke (l1 ++ l2)))) (setF lk nid false) w' nid 1 := by
    intro w' b0 o0 ext n cap base' hr hbb hcap hext hn hR' htr hc hmain hout hthere hmf
    have hD := DRel.join (n := n) h1 h2 hd hc (by simp [n1, n2]; omega) hmain hout
    refine ⟨_, w', _, hrun _ _ hr, ?_, aft_add (r := ⟨b0, o0, ext, n, fun b o => r1.own b o ∨ r2.own b o, r1.hs ++ r2.hs⟩) hR' hL1 ⟨⟨r1.hs ++ r2.hs, by simp [SegRel, n1, n2], by simp [n1, n2]; omega, hmain⟩, by simp [glen, hn], hthere, hD⟩ ?_ htr ?_ hfree⟩
    · exact ⟨_, base', cap, setF_same _ _ _, by rw [hn], hbb, by rw [hn]; exact hcap, by simpa using hext⟩
    · rintro b o' (⟨e1, e2, e3⟩ | ho)
      · simp only at e1 e2 e3
        subst e1
        exact ⟨(hmf o' e2 e3).1, (hmf o' e2 e3).2.1⟩
      · exact (hfr b o' ho).2
    · rintro b o' (⟨e1, e2, e3⟩ | ho) hlt
      · simp only at e1 e2 e3
        subst e1
        exact (hmf o' e2 e3).2.2 hlt
      · exact (hfr b o' ho).1
  by_cases hle : l1.length + l2.length ≤ sCap
  · by_cases hcap : sCap = 0
    · -- nothing in nothing
      have e1 : l1 = [] := List.length_eq_zero_iff.1 (by omega)
      have e2 : l2 = [] := List.length_eq_zero_iff.1 (by omega)
      have z1 : r1.hs = [] := List.length_eq_zero_iff.1 (by rw [n1, e1]; rfl)
      have z2 : r2.hs = [] := List.length_eq_zero_iff.1 (by rw [n2, e2]; rfl)
      have hrun0 := run_append_room (P := P) (w := w) (w' := w) (ty := ty) (k := .sl (.int ke)) (ys := l2) (sz := 1) hst hxt hd' hsz rfl (base := base) (sLen := l1.length) (sCap := sCap) hle hlen2 (cs := r2.hs) (hrd2 h2) (by
        rw [z2]; cases base <;> simp [storeCells])
      rw [← hu] at hrun0
      exact fin (b0 := w.heap.size) (o0 := 0) (ext := 0) hrun0 (fun h => absurd hcap h) hle (by omega) rfl hR1 t0 (fun _ _ _ => ⟨rfl, rfl⟩) (by rw [z1, z2]; simp) (by intro b o _ h; omega) (by intro j h; omega) (by intro o' h h'; omega)
    · -- in place
      have hb := hb1 hcap
      have hth : ∀ j, j < sCap → (w.cell? ⟨r1.b, r1.o + j, none⟩).isSome = true ∧ frz w r1.b = false := fun j hj => ht1 j (by omega)
      have hin : ∀ o', r1.o ≤ o' → o' < r1.o + sCap → r1.has r1.b o' := fun o' p q => .inl ⟨rfl, p, by omega⟩
      have hstore := run_storeCells_cells (P := P) r1.b (r1.o + l1.length) r2.hs 0 w
        (fun j hj => by
          have := (hth (l1.length + j) (by rw [n2] at hj; omega)).1
          simpa [Nat.add_assoc] using this)
        (fun j hj => by
          have := hth (l1.length + j) (by rw [n2] at hj; omega)
          simpa [Nat.add_assoc] using frozen_of_frz this.2 this.1) (head_one h2)
      have hrun0 := run_append_room (P := P) (w := w) (w' := w.setCells r1.b (r1.o + l1.length) r2.hs) (ty := ty) (k := .sl (.int ke)) (ys := l2) (sz := 1) hst hxt hd' hsz rfl (base := base) (sLen := l1.length) (sCap := sCap) hle hlen2 (cs := r2.hs) (hrd2 h2) (by
        rw [hb]
        simpa [addr_add] using hstore)
      rw [← hu] at hrun0
      -- what was not written
      have hkeep : ∀ b' o', ¬ (r1.b = b' ∧ r1.o + l1.length ≤ o' ∧ o' < r1.o + sCap) → (w.setCells r1.b (r1.o + l1.length) r2.hs).cell? ⟨b', o', none⟩ = w.cell? ⟨b', o', none⟩ ∧ frz (w.setCells r1.b (r1.o + l1.length) r2.hs) b' = frz w b' := by
        intro b' o' hne
        refine ⟨World.cell?_setCells_out _ _ _ _ _ (fun e1 _ => ?_), frz_setCells _ _ _ _ _⟩
        simp only at e1
        by_cases hlt : o' < r1.o + l1.length ∨ r1.o + l1.length + r2.hs.length ≤ o'
        · exact hlt
        · exact absurd ⟨e1.symm, by omega, by omega⟩ hne
      have hs := setCells_same r1.b r2.hs (r1.o + l1.length) w
      have hR' : Rel rom ρ hg1 (w.setCells r1.b (r1.o + l1.length) r2.hs) := hR1.world fun b' o' ho => hkeep b' o' fun ⟨e1, e2, e3⟩ => by
        subst e1
        have := hf1 _ o' (hin o' (by omega) e3)
        rcases ho with ho | ⟨v', hv'⟩
        · exact this.2.1 ho
        · rw [this.2.2] at hv'; cases hv'
      have hwr : ∀ j, j < r2.hs.length → Own hg ρ r1.b (r1.o + l1.length + j) := fun j hj => (hf1 _ _ (hin _ (by omega) (by omega))).1
      have htr : Tr rom ρ hg w rom ρ hg1 (w.setCells r1.b (r1.o + l1.length) r2.hs) := Tr.stored hs.1 hs.2.1 hs.2.2.1 hs.2.2.2 hown (fun b' ho => by
        by_cases hb0 : b' = r1.b
        · subst hb0
          cases hh : r2.hs with
          | nil => rfl
          | cons v0 cs => exact absurd (hwr 0 (by rw [hh]; simp)) (ho _)
        · exact setCells_other r1.b b' hb0 _ _ _) (fun b' o' ho => hkeep b' o' fun ⟨e1, e2, e3⟩ => ho (by subst e1; exact (hf1 _ o' (hin o' (by omega) e3)).1))
      refine fin (b0 := r1.b) (o0 := r1.o) (ext := sCap) hrun0 (fun _ => hb) hle (Nat.le_refl _) rfl hR' htr (fun b' o' ho => hkeep b' o' fun ⟨e1, e2, e3⟩ => ?_) (fun i v' hv' => ?_) (fun b' o' ho ⟨e1, e2, e3⟩ => ?_) (fun j hj => ?_) (fun o' p q => ?_)
      · subst e1
        rcases ho with ho | ho
        · exact h1.out _ _ ho ⟨rfl, by omega, by omega⟩
        · exact hdis _ _ (hin o' (by omega) e3) (.inr ho)
      · by_cases hi1 : i < l1.length
        · rw [List.getElem?_append_left (by omega)] at hv'
          rw [(hkeep _ _ (fun ⟨_, e2, _⟩ => by omega)).1]
          exact h1.main i v' hv'
        · rw [List.getElem?_append_right (by omega)] at hv'
          have hlt := (List.getElem?_eq_some_iff.1 hv').1
          have := World.cell?_setCells_in r1.b r2.hs (r1.o + l1.length) w (fun i hi => by
            have := (hth (l1.length + i) (by omega)).1
            rwa [← Nat.add_assoc] at this) (i - r1.hs.length) hlt
          rw [show r1.o + l1.length + (i - r1.hs.length) = r1.o + i by omega] at this
          rw [this, ← hv', List.getElem?_eq_getElem hlt]
      · subst e1
        rcases ho with ho | ho
        · exact h1.out _ _ ho ⟨rfl, by omega, by omega⟩
        · exact hdis _ _ (hin o' (by omega) e3) (.inr ho)
      · exact ⟨setCells_isSome _ _ _ _ _ (hth j hj).1, by rw [frz_setCells]; exact (hth j hj).2⟩
      · have := hf1 _ o' (hin o' p q)
        exact ⟨this.2.1, this.2.2, fun _ => this.1⟩
  · -- a new row
    have hdr : ∀ {l : List (List Int)} {r : RE}, DRel w ke l r → DRel w.drew ke l r := fun h => h.world fun _ _ _ => ⟨rfl, rfl⟩
    have ho : (Builtin.firstCells 1 l1.length (.slice base l1.length sCap)).run P w.drew = .ok r1.hs.toArray w.drew := rows_read (hdr h1) hb1 hle1
    obtain ⟨newCap, cc, q1, q2, q3, q4⟩ := run_append_grow (P := P) (w := w) (ty := ty) (k := .sl (.int ke)) (ys := l2) hst hxt hd' hi hks' hz hzl (base := base) (sLen := l1.length) (sCap := sCap) hle (by rw [hpb]; exact hfit) hlen2 (cs := r2.hs) (old := r1.hs) (hrd2 (hdr h2)) ho (by simp [n2, EK.size]) (by simp [n1, EK.size])
    rw [← hu] at q4
    have hgr : w.grownBy (w.drew.alloc (.cells cc e)) none := by
      have := grown_alloc w.drew (.cells cc e)
      exact ⟨this.os, this.tape, this.output, this.size, this.block⟩
    have q2' : cc.size = newCap := by simpa [EK.size] using q2
    have hold : ∀ b o, r1.own b o ∨ r2.own b o → b < w.heap.size := fun b o ho => hR.lt (hfr b o ho).1
    have hno : ∀ o', ¬ Own hg1 ρ w.heap.size o' ∧ rom w.heap.size o' = none := fun o' =>
      ⟨fun h => absurd (hR1.lt h) (by omega), by cases h : rom w.heap.size o' with | none => rfl | some v => exact absurd (hR1.rlt h) (by omega)⟩
    refine fin (b0 := w.heap.size) (o0 := 0) (ext := newCap) q4 (fun _ => rfl) q1 (Nat.le_refl _) rfl (hR1.grown hgr) (t0.trans (Tr.grown hgr (fun _ _ h => h) (fun b o h _ => h)))
      (fun b o ho => ⟨World.cell?_of_block (a := ⟨b, o, none⟩) (hgr.block b (hold b o ho) (by simp)), frz_of_block (hgr.block b (hold b o ho) (by simp))⟩) (fun i v' hv' => ?_) (fun b o ho ⟨e1, _, _⟩ => ?_) (fun j hj => ?_) (fun o' _ _ => ⟨(hno o').1, (hno o').2, fun h => absurd h (by omega)⟩)
    · have := World.cell?_alloc_new w.drew cc e i
      simp only [World.size_drew] at this
      rw [Nat.zero_add, this]
      exact q3 i v' hv'
    · have := hold b o ho
      omega
    · have := alloc_there w.drew cc e j (by omega)
      simpa using this

/-- A block of rows that a slice names. -/
theorem rows_of (hR : Rel rom ρ hg w) {id : Nat} {k : IntKind} {l : List (List Int)} (hid : hg id = some (.deep k l)) {u : Value} (hu : CRel rom ρ (.slw id 1) u) :
    ∃ r base cap, ρ id = some r ∧ u = .slice base l.length cap ∧ (cap ≠ 0 → base = some ⟨r.b, r.o, none⟩) ∧ l.length ≤ cap ∧ cap ≤ r.ext ∧ DRel w k l r ∧
      (∀ j, j < r.ext → (w.cell? ⟨r.b, r.o + j, none⟩).isSome = true ∧ frz w r.b = false) := by
  obtain ⟨r, base, cap, hr, e1, e2, e3, e4⟩ := hu
  obtain ⟨r', hr', hb⟩ := hR.blk id _ hid
  rw [hr] at hr'
  cases hr'
  have hlen := hb.len
  simp only [glen] at hlen
  exact ⟨r, base, cap, hr, by rw [e1, hlen], e2, by omega, by omega, hb.ex, hb.there⟩

theorem appendD_ok {o : Oper} {a : Act} (hΓ : TabOK P Γ) (hR : Rel rom ρ hg w) (hL : Lnk ρ hg lk) {st xt ty : Nat} {d' : TypeDesc} (hxt : P.underlying xt = some d') (hd' : ∀ k, d' ≠ .int k)
    {x y : AC} {u v : Value} {r : OR} (h : appendD hg nid Γ st x y = some r) (hx : CRel rom ρ x u) (hy : CRel rom ρ y v)
    (hrun : ∀ z w', (Builtin.append_ #[st, xt] ty #[u, v]).run P w = .ok z w' → (execOp a.eval o).run P w = .ok (.value z) w') : Does P o a w rom ρ hg lk nid r := by
  unfold appendD at h
  split at h <;> try (cases h; done)
  rename_i e hd
  have hst := tdesc_ok hΓ hd
  simp only [DOK] at hst
  split at h <;> try (cases h; done)
  rename_i ti hti
  split at h <;> try (cases h; done)
  rename_i ke hk
  have hT := hΓ e ti hti
  obtain ⟨hks, ⟨p0, z, hi, hz, hzr⟩, _⟩ := hT.ek _ hk
  obtain ⟨p, hi', hps, hpb, _⟩ := hT.info
  rw [hi] at hi'
  cases hi'
  have hks' : 1 = p0.size := by rw [hps, ← hks]; rfl
  have hzl : z.cells.size = 1 := by
    have := EK.Rel.length (hzr (fun _ _ => none))
    simpa [EK.size] using this
  split at h <;> try (cases h; done)
  rename_i id2
  split at h <;> try (cases h; done)
  rename_i k2 l2 hid2
  split at h <;> try (cases h; done)
  rename_i hke
  subst hke
  obtain ⟨r2, base2, cap2, hr2, hv, hb2, hle2, hx2, hD2, ht2⟩ := rows_of hR hid2 hy
  -- a block that ends is one's own, and of nobody else
  have ends : ∀ (hg1 : Nat → Option Seg) {id : Nat} {g : Seg} {r0 : RE}, (∀ i g, hg1 i = some g → hg i = some g ∧ i ≠ id) → hg id = some g → ρ id = some r0 → ∀ b o, r0.has b o → Own hg ρ b o ∧ ¬ Own hg1 ρ b o ∧ rom b o = none := by
    intro hg1 id g r0 hs hid hr b o hh
    refine ⟨⟨id, g, r0, hid, hr, hh⟩, ?_, ?_⟩
    · rintro ⟨i, g', q, a1, a2, a3⟩
      obtain ⟨b1, b2⟩ := hs i g' a1
      exact hR.dis i id g' g q r0 b1 hid b2 a2 hr b o a3 hh
    · cases hrom : rom b o with
      | none => rfl
      | some v => exact absurd hh ((hR.rm b o v hrom).2 id g r0 hid hr)
  split at h
  · -- behind nothing
    cases h
    refine does_run fun x hx' hchk hf => ?_
    have hfree := hf nid (Nat.le_refl _) (by simp [OR.eff])
    simp only [CRel] at hx
    have hne : nid ≠ id2 := fun e => by rw [e, hid2] at hfree; cases hfree.1
    obtain ⟨u', w', ρ', p1, p2, p3⟩ := appendD_core (o := o) (a := a) (ty := ty) (lk := lk) (nid := nid) (hg := hg) (hg1 := setF hg id2 none) (u := u) (v := v) (z := z) (l1 := []) (r1 := ⟨0, 0, 0, 0, fun _ _ => False, []⟩) hst hxt hd' hi hks' hz hzl hpb hrun
      (DRel.nil w _ 0 0 0) hD2 hR (hR.drop id2) (hL.drop id2) (fun _ _ h => Own.drop h) (fun b o hh => by rcases hh with ⟨_, h2, h3⟩ | hh; exact absurd h3 (by simp at h2 ⊢); exact hh.elim)
      (ends _ (fun i g hi => by
        by_cases e0 : i = id2
        · subst e0; simp at hi
        · rw [setF_ne _ _ e0] at hi; exact ⟨hi, e0⟩) hid2 hr2)
      (fun b o hh _ => by rcases hh with ⟨_, h2, h3⟩ | hh; exact absurd h3 (by simp at h2 ⊢); exact hh.elim)
      (base := none) (sCap := 0) hx (Nat.le_refl _) (fun h => absurd rfl h) (Nat.le_refl _) (fun j hj => by simp at hj) hv hle2 hb2 (by simpa [OR.eff] using hchk) ⟨by rw [setF_ne _ _ hne]; exact hfree.1, hfree.2⟩
    exact ⟨u', w', rom, ρ', .inl p1, p2, by simpa [OR.eff, hgA, hgU, hgN, lkN] using p3⟩
  · rename_i id
    split at h <;> try (cases h; done)
    rename_i k l hid
    split at h <;> try (cases h; done)
    rename_i hk1
    subst hk1
    split at h <;> try (cases h; done)
    rename_i hne12
    cases h
    refine does_run fun x hx' hchk hf => ?_
    have hfree := hf nid (Nat.le_refl _) (by simp [OR.eff])
    obtain ⟨r1, base, cap, hr1, hu, hb1, hle1, hx1, hD1, ht1⟩ := rows_of hR hid hx
    have hn1 : nid ≠ id := fun e => by rw [e, hid] at hfree; cases hfree.1
    have hn2 : nid ≠ id2 := fun e => by rw [e, hid2] at hfree; cases hfree.1
    have hs : ∀ i g, setF (setF hg id none) id2 none i = some g → hg i = some g ∧ i ≠ id ∧ i ≠ id2 := fun i g hi => by
      by_cases e0 : i = id2
      · subst e0; simp at hi
      · rw [setF_ne _ _ e0] at hi
        by_cases e1 : i = id
        · subst e1; simp at hi
        · rw [setF_ne _ _ e1] at hi; exact ⟨hi, e1, e0⟩
    obtain ⟨u', w', ρ', p1, p2, p3⟩ := appendD_core (o := o) (a := a) (ty := ty) (lk := lk) (nid := nid) (hg := hg) (hg1 := setF (setF hg id none) id2 none) (u := u) (v := v) (z := z) hst hxt hd' hi hks' hz hzl hpb hrun
      hD1 hD2 hR ((hR.drop id).drop id2) ((hL.drop id).drop id2) (fun _ _ h => Own.drop (Own.drop h))
      (ends _ (fun i g hi => ⟨(hs i g hi).1, (hs i g hi).2.1⟩) hid hr1) (ends _ (fun i g hi => ⟨(hs i g hi).1, (hs i g hi).2.2⟩) hid2 hr2)
      (fun b o p q => hR.dis id id2 _ _ r1 r2 hid hid2 hne12 hr1 hr2 b o p q)
      hu hle1 hb1 hx1 ht1 hv hle2 hb2 (by simpa [OR.eff] using hchk) ⟨by rw [setF_ne _ _ hn2, setF_ne _ _ hn1]; exact hfree.1, hfree.2⟩
    exact ⟨u', w', rom, ρ', .inl p1, p2, by simpa [OR.eff, hgA, hgU, hgN, lkN] using p3⟩
  · cases h

/-! A literal of one row -/

theorem ints_of {k : IntKind} : ∀ {l : List Int} {cs : List Value}, LRel (EK.Rel rom (.int k)) l cs → cs = l.map (Value.int k)
  | [], cs, h => by simpa [LRel] using h
  | n :: l, cs, ⟨c, d, e, h1, h2⟩ => by
    simp only [EK.Rel] at h1
    subst h1
    rw [e, ints_of h2]
    rfl

/-- A slice that is to become a row: its header, what lies at it. -/
theorem rowOf_ok (hR : Rel rom ρ hg w) {c : AC} {k : IntKind} {l : List Int} {chk : Bool} {id : Nat} {v : Value} (h : rowOf hg c = some (k, l, chk, id)) (hc : chk = true) (hv : CRel rom ρ c v) :
    ∃ g r base cap, hg id = some g ∧ ρ id = some r ∧ v = .slice base l.length cap ∧ l.length ≤ cap ∧ (cap ≠ 0 → ∃ b o, base = some ⟨b, o, none⟩) ∧
      (∀ b o, base = some ⟨b, o, none⟩ → ∀ (t : Nat) (n : Int), l[t]? = some n → w.cell? ⟨b, o + t, none⟩ = some (.int k n) ∧ r.has b (o + t)) ∧
      (∀ b o, r.has b o → (w.cell? ⟨b, o, none⟩).isSome = true ∧ frz w b = false) := by
  subst hc
  unfold rowOf at h
  have there : ∀ {g : Seg} {r : RE}, g.flat = true → hg id = some g → ρ id = some r → ∀ b o, r.has b o → (w.cell? ⟨b, o, none⟩).isSome = true ∧ frz w b = false := by
    intro g r hf h1 h2 b o hh
    obtain ⟨r', h3, hb⟩ := hR.blk id _ h1
    rw [h2] at h3
    cases h3
    obtain ⟨e1, e2, e3⟩ := (RE.has_flat ((XRel.flat hf).1 hb.ex)).1 hh
    have := hb.there (o - r.o) (by omega)
    rw [show r.o + (o - r.o) = o by omega, e1] at this
    exact this
  split at h
  · rename_i id0
    split at h <;> try (cases h; done)
    rename_i k0 l0 hid
    cases h
    obtain ⟨r, base, cap, hr, e1, e2, e3, e4⟩ := hv
    obtain ⟨r', hr', hb⟩ := hR.blk id _ hid
    rw [hr] at hr'
    cases hr'
    have hlen := hb.len
    simp only [glen] at hlen
    obtain ⟨⟨cs, g1, g2, g3⟩, _, _, _⟩ := hb
    have hcs := ints_of g1.2
    have hl : l.length = r.n := hlen
    refine ⟨_, r, base, cap, hid, hr, by rw [e1, hl], by omega, fun h => ⟨_, _, e2 h⟩, fun b o hbo t n hn => ?_, there rfl hid hr⟩
    have hlt := (List.getElem?_eq_some_iff.1 hn).1
    have h2 := e2 (by omega)
    rw [hbo] at h2
    cases h2
    have hget : cs[t]? = some (.int k n) := by rw [hcs, List.getElem?_map, hn]; rfl
    have hlt2 := (List.getElem?_eq_some_iff.1 hget).1
    exact ⟨g3 t _ hget, .inl ⟨rfl, by omega, by omega⟩⟩
  · rename_i id0 off len cp
    split at h <;> try (cases h; done)
    rename_i k0 m l0 hid
    injection h with h
    injection h with h1 h
    injection h with h2 h
    injection h with h3 h4
    subst h1; subst h2; subst h4
    have hin : off + len ≤ l0.length := by simpa using h3
    obtain ⟨r, base, cap, hr, e1, e2, e3, e4, e5⟩ := hv
    obtain ⟨r', hr', hb⟩ := hR.blk id0 _ hid
    rw [hr] at hr'
    cases hr'
    obtain ⟨⟨cs, g1, g2, g3⟩, _, _, _⟩ := hb
    have hcs := ints_of g1.2
    have hlen : (List.take len (List.drop off l0)).length = len := by simp; omega
    refine ⟨_, r, base, cap, hid, hr, by rw [e1, hlen], by rw [hlen]; exact e3, fun h => ⟨_, _, e2 h⟩, fun b o hbo t n hn => ?_, there rfl hid hr⟩
    have hlt := (List.getElem?_eq_some_iff.1 hn).1
    rw [hlen] at hlt
    have h2 := e2 (by omega)
    rw [hbo] at h2
    cases h2
    have hn' : l0[off + t]? = some n := by
      rw [List.getElem?_take, if_pos hlt, List.getElem?_drop] at hn
      exact hn
    have hget : cs[off + t]? = some (.int k0 n) := by rw [hcs, List.getElem?_map, hn']; rfl
    have hlt2 := (List.getElem?_eq_some_iff.1 hget).1
    refine ⟨?_, .inl ⟨rfl, by omega, by omega⟩⟩
    have := g3 _ _ hget
    rw [Nat.mul_one, Nat.add_assoc]
    exact this
  · cases h

theorem buildSliceD_ok {o : Oper} {a : Act} (hΓ : TabOK P Γ) (hR : Rel rom ρ hg w) (hL : Lnk ρ hg lk) {t len : Nat} {ps : List (Nat × TV)} {pv : Array (Nat × Value)} {r : OR} (h : buildSliceD hg nid Γ t len ps = some r)
    (hps : PsRel rom ρ ps pv.toList)
    (hrun : ∀ z w', (Instr.buildSlice t len pv).run P w = .ok z w' → (execOp a.eval o).run P w = .ok (.value z) w') : Does P o a w rom ρ hg lk nid r := by
  unfold buildSliceD at h
  split at h <;> try (cases h; done)
  rename_i e hd
  have hst := tdesc_ok hΓ hd
  simp only [DOK] at hst
  split at h <;> try (cases h; done)
  rename_i ti hti
  split at h <;> try (cases h; done)
  rename_i ke hk
  have hT := hΓ e ti hti
  obtain ⟨hks, ⟨p0, z, hi, hz, hzr⟩, _⟩ := hT.ek _ hk
  obtain ⟨p, hi', hps', hpb, _⟩ := hT.info
  rw [hi] at hi'
  cases hi'
  have hks' : p0.size = 1 := by rw [hps', ← hks]; rfl
  have hsz : (sizeOf e).run P w = .ok 1 w := by simp [sizeOf, typeInfo, hi, hks']
  have hzl : z.cells.size = 1 := by
    have := EK.Rel.length (hzr (fun _ _ => none))
    simpa [EK.size] using this
  split at h <;> try (cases h; done)
  rename_i c
  split at h <;> try (cases h; done)
  rename_i k l chk id hrow
  split at h <;> try (cases h; done)
  rename_i hke
  subst hke
  cases h
  refine does_run fun x hx' hchk hf => ?_
  have hfree := hf nid (Nat.le_refl _) (by simp [OR.eff])
  -- the part
  obtain ⟨pl⟩ := pv
  cases pl with
  | nil => exact hps.elim
  | cons q pl =>
    obtain ⟨⟨e1, hv⟩, hrest⟩ := hps
    cases pl with
    | cons q' pl => exact hrest.elim
    | nil =>
      obtain ⟨i0, v⟩ := q
      simp only at e1 hv
      subst e1
      obtain ⟨g, r0, base, cap, hid, hr0, e1, e2, e3, e4, e5⟩ := rowOf_ok hR hrow (by simpa [OR.eff] using hchk) hv
      have hne : nid ≠ id := fun e => by rw [e, hid] at hfree; cases hfree.1
      have hvc : v.cells = #[v] := by rw [e1]; rfl
      have hrun0 : (Instr.buildSlice t 1 #[(0, v)]).run P w = .ok (.slice (some ⟨w.heap.size, 0, none⟩) 1 1) (w.alloc (.cells #[v] e)) := by
        unfold Instr.buildSlice
        simp only [Sem.run_bind, run_underlying hst, Result.andThen_ok, hsz, Sem.run_ite]
        rw [if_neg (by omega), if_neg (by omega)]
        have hfill : Instr.fill (fun i => some (i * 1, 1)) ((Array.range (1 * 1)).map (fun i => z.cells[i % z.cells.size]!)) [(0, v)] = some #[v] := by
          have : (Array.range (1 * 1)).map (fun i => z.cells[i % z.cells.size]!) = #[z.cells[0 % z.cells.size]!] := by
            apply Array.ext
            · simp
            · intro i h1 h2
              have : i = 0 := by simpa using h2
              subst this
              simp
          rw [this]
          simp [Instr.fill, hvc]
        simp only [zeroValue, typeInfo, Sem.run_bind, run_program, hi, hz, Sem.run_pure, Result.andThen_ok]
        rw [hfill]
        simp [newRow]
      have hw0 : ∀ b o, b < w.heap.size → (w.alloc (.cells #[v] e)).cell? ⟨b, o, none⟩ = w.cell? ⟨b, o, none⟩ ∧ frz (w.alloc (.cells #[v] e)) b = frz w b := fun b o hb => by
        have hgr := grown_alloc w (.cells #[v] e)
        exact ⟨World.cell?_of_block (a := ⟨b, o, none⟩) (hgr.block b hb (by simp)), frz_of_block (hgr.block b hb (by simp))⟩
      have hlt : ∀ b o, r0.has b o → b < w.heap.size := fun b o hh => hR.lt ⟨id, g, r0, hid, hr0, hh⟩
      have hnew : (w.alloc (.cells #[v] e)).cell? ⟨w.heap.size, 0, none⟩ = some v := by rw [World.cell?_alloc_new]; simp
      have hD : DRel (w.alloc (.cells #[v] e)) k [l] ⟨w.heap.size, 0, 1, 1, r0.has, [v]⟩ := by
        refine ⟨rfl, Nat.le_refl _, fun i v' hv' => ?_, fun i x hx => ?_, fun i x hx b o len' cap' hs t' n hn => ?_, fun i j hij b o len' cap' hi o' len2 cap2 hj => ?_, fun b o hh => ?_, fun b o hh ⟨q1, _, _⟩ => ?_⟩
        · cases i with
          | zero => simp at hv'; subst hv'; exact hnew
          | succ i => simp at hv'
        · cases i with
          | zero => simp at hx; subst hx; exact ⟨base, cap, by simp [e1], e2, e3⟩
          | succ i => simp at hx
        · cases i with
          | zero =>
            simp at hx
            subst hx
            simp at hs
            rw [e1] at hs
            cases hs
            obtain ⟨p1, p2⟩ := e4 b o rfl t' n hn
            exact ⟨by rw [(hw0 b _ (hlt _ _ p2)).1]; exact p1, p2⟩
          | succ i => simp at hx
        · cases i with
          | zero => cases j with
            | zero => exact absurd rfl hij
            | succ j => simp at hj
          | succ i => simp at hi
        · rw [(hw0 b o (hlt b o hh)).1, (hw0 b o (hlt b o hh)).2]
          exact e5 b o hh
        · have := hlt b o hh
          simp only at q1
          omega
      have hgr := grown_alloc w (.cells #[v] e)
      have t0 : Tr rom ρ hg w rom ρ (setF hg id none) w := Tr.stored rfl rfl rfl rfl (fun _ _ h => Own.drop h) (fun _ _ => rfl) (fun _ _ _ => ⟨rfl, rfl⟩)
      have haft := aft_add (w := w) (hg := hg) (nid := nid) (g := .deep k [l]) (r := ⟨w.heap.size, 0, 1, 1, r0.has, [v]⟩) ((hR.drop id).grown hgr) (hL.drop id)
        ⟨⟨[v], rfl, Nat.le_refl _, fun j v' hj => by
            cases j with
            | zero => simp at hj; subst hj; exact hnew
            | succ j => simp at hj⟩, rfl, fun j hj => by
            have : j = 0 := by simpa using hj
            subst this
            exact alloc_there w #[v] e 0 (by simp), hD⟩
        (by
          rintro b o' (⟨q1, _, _⟩ | hh)
          · simp only at q1
            subst q1
            refine ⟨fun h => absurd (hR.lt (Own.drop h)) (by omega), ?_⟩
            cases h : rom w.heap.size o' with
            | none => rfl
            | some v => exact absurd (hR.rlt h) (by omega)
          · refine ⟨?_, ?_⟩
            · rintro ⟨i, g', q, a1, a2, a3⟩
              by_cases e0 : i = id
              · subst e0; simp at a1
              · rw [setF_ne _ _ e0] at a1
                exact hR.dis i id g' g q r0 a1 hid e0 a2 hr0 b o' a3 hh
            · cases hrom : rom b o' with
              | none => rfl
              | some v => exact absurd hh ((hR.rm b o' v hrom).2 id g r0 hid hr0))
        (t0.trans (Tr.grown hgr (fun _ _ h => h) (fun b o h _ => h)))
        (by
          rintro b o' (⟨q1, _, _⟩ | hh) hb
          · simp only at q1; omega
          · exact ⟨id, g, r0, hid, hr0, hh⟩)
        ⟨by rw [setF_ne _ _ hne]; exact hfree.1, hfree.2⟩
      refine ⟨_, _, rom, _, .inl (hrun _ _ hrun0), ?_, by simpa [OR.eff, hgA, hgU, hgN, lkN] using haft⟩
      exact ⟨_, _, _, setF_same _ _ _, rfl, fun _ => rfl, Nat.le_refl _, Nat.le_refl _⟩

/-- Of no rows: nowhere. -/
theorem empty_deep (hR : Rel rom ρ hg w) (hL : Lnk ρ hg lk) (k : IntKind) (hf : hg nid = none ∧ ρ nid = none) :
    Aft rom ρ hg w rom (setF ρ nid (some ⟨w.heap.size, 0, 0, 0, fun _ _ => False, []⟩)) (setF hg nid (some (.deep k []))) (setF lk nid false) w nid 1 :=
  aft_add hR hL ⟨⟨[], rfl, Nat.le_refl _, fun j v h => by simp at h⟩, rfl, fun j h => by simp at h, DRel.nil w k _ _ _⟩
    (fun b o hh => by rcases hh with ⟨_, h2, h3⟩ | hh; exact absurd h3 (by simp at h2 ⊢); exact hh.elim) (Tr.refl _ _ _ _)
    (fun b o hh _ => by rcases hh with ⟨_, h2, h3⟩ | hh; exact absurd h3 (by simp at h2 ⊢); exact hh.elim) hf

end
end Go.Rf

set_option linter.unusedVariables false
set_option linter.unusedSimpArgs false
set_option linter.unusedSectionVars false
namespace Go.Rf
open Go

theorem LRel.ints {rom : Rom} {k : IntKind} : ∀ {ys : List Int} {cs : List Value}, LRel (EK.Rel rom (.int k)) ys cs → cs = ys.map (Value.int k)
  | [], cs, h => by simp only [LRel] at h; subst h; rfl
  | y :: ys, cs, ⟨c, d, e, h1, h2⟩ => by
    simp only [EK.Rel] at h1
    subst h1; subst e
    rw [LRel.ints h2]
    rfl

theorem bytes_rel {rom : Rom} : ∀ s : List UInt8, LRel (EK.Rel rom (.int .u8)) (s.map fun b => (b.toNat : Int)) (s.map fun b => Value.int .u8 b.toNat)
  | [] => rfl
  | b :: s => ⟨[.int .u8 b.toNat], _, rfl, rfl, bytes_rel s⟩

theorem push_all : ∀ (ys : List Int) (r : List UInt8), ys.foldl (fun (r : ByteArray) n => r.push (UInt8.ofNat n.toNat)) ⟨⟨r⟩⟩ = ⟨⟨r ++ ys.map fun n => UInt8.ofNat n.toNat⟩⟩
  | [], r => by simp
  | y :: ys, r => by
    simp only [List.foldl_cons, List.map_cons]
    have : (⟨⟨r⟩⟩ : ByteArray).push (UInt8.ofNat y.toNat) = ⟨⟨r ++ [UInt8.ofNat y.toNat]⟩⟩ := by
      simp [ByteArray.push]
    rw [this, push_all ys]
    simp

section
variable {P : Program} {Γ : Tab} {rom : Rom} {ρ : RM} {w w' : World} {hg : Nat → Option Seg} {lk : Nat → Bool} {nid : Nat}

theorem run_bts {v : Value} {ys : List Int} {base : Option Addr} {len cap : Nat} (hv : v = .slice base len cap) (hl : base = none → len = 0) (h : HasContent P rom w (.int .u8) ys v) :
    (Conv.bytesToString v).run P w = .ok (strV (ys.map fun (n : Int) => UInt8.ofNat n.toNat)) w := by
  obtain ⟨h1, cs, h2, h3, _⟩ := h
  subst hv
  have hlen : len = ys.length := by
    simp only [Builtin.lenOf, Sem.run_pure] at h1
    cases h1; rfl
  have hcs := LRel.ints h2
  cases base with
  | none =>
    have h0 := hl rfl
    subst h0
    have : ys = [] := List.length_eq_zero_iff.1 hlen.symm
    subst this
    rfl
  | some a =>
    have h3' := h3 _ (Nat.le_refl _)
    have e1 : ys.length * (EK.int .u8).size = ys.length := by simp [EK.size]
    rw [e1, List.take_of_length_le (by rw [hcs]; simp)] at h3'
    simp only [Builtin.firstCells, EK.size, Nat.mul_one] at h3'
    have h3'' : (loadCells a ys.length).run P w = .ok (ys.map (Value.int .u8)).toArray w := by rw [← hcs]; exact h3'
    rw [hlen]
    rw [run_bytesToString w a ys.length cap ys h3'']
    have := push_all ys []
    simp only [List.nil_append] at this
    have e0 : (ByteArray.empty : ByteArray) = ⟨⟨[]⟩⟩ := rfl
    rw [e0, this]
    rfl

theorem content_slice {c : AC} {ys : List Int} {chk : Bool} {ids : List Nat} {v : Value} (hR : Rel rom ρ hg w) (h : content hg (.int .u8) c = some (ys, chk, ids)) (hs : ∀ s, c ≠ .str s) (hv : CRel rom ρ c v) :
    ∃ base len cap, v = .slice base len cap ∧ (base = none → len = 0) := by
  unfold content at h
  split at h
  · simp only [CRel] at hv; exact ⟨none, 0, 0, hv, fun _ => rfl⟩
  · split at h <;> try (cases h; done)
    rename_i he
    subst he
    cases h
    obtain ⟨base, cap, e1, e2, e3⟩ := hv
    simp only [List.cons.injEq, and_true] at e1
    refine ⟨base, _, cap, e1, fun hb => ?_⟩
    rcases e3 with e3 | ⟨_, _, _, e4, _⟩
    · rw [e3]; rfl
    · rw [hb] at e4; cases e4
  · obtain ⟨r, base, cap, _, e1, e2, e3, _⟩ := hv
    refine ⟨base, _, cap, e1, fun hb => ?_⟩
    by_cases h0 : cap = 0
    · omega
    · rw [hb] at e2; cases e2 h0
  · obtain ⟨r, base, cap, _, e1, e2, e3, _⟩ := hv
    refine ⟨base, _, cap, e1, fun hb => ?_⟩
    by_cases h0 : cap = 0
    · omega
    · rw [hb] at e2; cases e2 h0
  · exact absurd rfl (hs _)
  · split at h <;> try (cases h; done)
    rename_i k' l hid
    obtain ⟨r, base, cap, _, _, _, _, e1, e2, e3, _⟩ := row_head hR hid hv
    refine ⟨base, _, cap, e1, fun hb => ?_⟩
    by_cases h0 : cap = 0
    · omega
    · obtain ⟨b, o, e4⟩ := e3 h0
      rw [hb] at e4; cases e4
  · cases h

theorem cell_freeze (w : World) (a : Addr) (n : Nat) (b o : Nat) : (w.freeze a n).cell? ⟨b, o, none⟩ = w.cell? ⟨b, o, none⟩ := by
  unfold World.freeze
  split
  · rfl
  · by_cases e : a.block = b
    · subst e
      cases h : w.heap[a.block]? with
      | none => simp [World.cell?, Array.getElem?_modify, h]
      | some x => cases x <;> simp [World.cell?, Array.getElem?_modify, h]
    · simp [World.cell?, Array.getElem?_modify, e]

/-- A block's mark behind its cells. -/
theorem mark_ok (w : World) (a : Addr) : ∃ w', (markStringish a).run P w = .ok () w' ∧ (w'.heap.size = w.heap.size ∧ w'.os = w.os ∧ w'.tape = w.tape ∧ w'.output = w.output) ∧
    (∀ b, b ≠ a.block → w'.heap[b]? = w.heap[b]?) ∧ ∀ b o, w'.cell? ⟨b, o, none⟩ = w.cell? ⟨b, o, none⟩ ∧ frz w' b = frz w b := by
  unfold markStringish
  simp only [Sem.run_bind, run_shape, Result.andThen_ok]
  cases hs : w.shape? a.block with
  | none => exact ⟨w, rfl, ⟨rfl, rfl, rfl, rfl⟩, fun _ _ => rfl, fun _ _ => ⟨rfl, rfl⟩⟩
  | some x =>
    obtain ⟨t, n⟩ := x
    refine ⟨w.freeze { block := a.block, off := n } 1, by simp only [run_freeze], ⟨by simp [World.freeze], rfl, rfl, rfl⟩, fun b hb => by simp [World.freeze, Array.getElem?_modify, Ne.symm hb], fun b o => ⟨cell_freeze _ _ _ _ _, ?_⟩⟩
    by_cases e : a.block = b
    · subst e
      unfold World.shape? at hs
      simp only [frz, World.freeze, Nat.succ_ne_zero, if_false, Array.getElem?_modify, if_true]
      cases h : w.heap[a.block]? with
      | none => rfl
      | some y =>
        rw [h] at hs
        cases y with
        | cells c el fz =>
          obtain ⟨lo, hi⟩ := fz
          simp only [Option.some.injEq, Prod.mk.injEq] at hs
          obtain ⟨_, e2⟩ := hs
          subst e2
          simp only [Option.map_some]
          by_cases hlh : lo = hi
          · subst hlh
            simp
          · have hb : (lo == hi) = false := by simp [hlh]
            simp only [hb]
            by_cases h2 : c.size ≤ lo
            · have : min lo c.size = c.size := by omega
              simp [this, h2]
            · have h3 : min lo c.size = lo := by omega
              have h4 : ¬ lo = max hi (c.size + 1) := by omega
              simp [h3, h4, h2, hlh]
        | _ => rfl
    · simp [frz, World.freeze, Array.getElem?_modify, e]

theorem convA_ok {o : Oper} {a : Act} (hΓ : TabOK P Γ) (hR : Rel rom ρ hg w) (hL : Lnk ρ hg lk) {src dst : Nat} {x : AC} {u : Value} {r : OR} (h : convA hg nid Γ src dst x = some r) (hx : CRel rom ρ x u)
    (hrun : ∀ z w', (convert src dst u).run P w = .ok z w' → (execOp a.eval o).run P w = .ok (.value z) w') : Does P o a w rom ρ hg lk nid r := by
  unfold convA at h
  split at h
  · rename_i ds k k0 n hs hd
    cases h
    refine does_val (v := one (.int k (wrapF k n))) (fun _ => rfl) hR hL fun _ => ?_
    have hd' := tdesc_ok hΓ hd
    simp only [DOK] at hd'
    have hs' : ∃ d, P.underlying src = some d := by
      have := tdesc_ok hΓ hs
      cases ds <;> simp only [DOK] at this
      case struct => obtain ⟨_, h, _⟩ := this; exact ⟨_, h⟩
      case fn => obtain ⟨_, _, _, h⟩ := this; exact ⟨_, h⟩
      case other => obtain ⟨_, h, _⟩ := this; exact ⟨_, h⟩
      all_goals exact ⟨_, this⟩
    obtain ⟨d, hs'⟩ := hs'
    simp only [CRel] at hx
    subst hx
    refine ⟨_, hrun _ _ ?_, by simp only [one, TVRel, AVRel, CRel]; rfl⟩
    simp [convert, run_underlying hs', run_underlying hd', Conv.intToInt, wrapF_eq]
  · rename_i s hs hd
    cases h
    refine does_val (v := one (.str s)) (fun _ => rfl) hR hL fun _ => ?_
    have hd' := tdesc_ok hΓ hd
    have hs' := tdesc_ok hΓ hs
    simp only [DOK] at hd' hs'
    simp only [CRel] at hx
    subst hx
    refine ⟨_, hrun _ _ ?_, by simp only [one, TVRel, AVRel, CRel]; rfl⟩
    simp [convert, run_underlying hs', run_underlying hd', strV]
  · rename_i e s hs hd
    split at h <;> try (cases h; done)
    rename_i he
    cases h
    have hd' := tdesc_ok hΓ hd
    have hs' := tdesc_ok hΓ hs
    have he' := tdesc_ok hΓ he
    simp only [DOK] at hd' hs' he'
    simp only [CRel] at hx
    subst hx
    refine does_run fun x hx' hchk hf => ?_
    have hfree := hf nid (Nat.le_refl _) (by simp [OR.eff])
    let q : Question := .appendCap s.length 0 e
    let cap := q.cut (w.tape w.drawn q)
    let elems : List Value := s.map fun b => Value.int .u8 b.toNat
    let cells : Array Value := elems.toArray ++ Array.replicate (cap - s.length) (.int .u8 0)
    let w1 := w.drew.alloc (.cells cells e)
    let w2 := w1.freeze { block := w.heap.size, off := cells.size } 1
    have hcap : s.length ≤ cap := by show _ ≤ Question.cut _ _; simp [q, Question.cut]
    have hsz : cells.size = cap := by simp [cells, elems]; omega
    have hw1 : w1.heap[w.heap.size]? = some (.cells cells e (0, 0)) := heap_alloc_new w.drew _
    have hrun0 : (convert src dst (strV s)).run P w = .ok (.slice (some ⟨w.heap.size, 0, none⟩) s.length cap) w2 := by
      have hch : (choose q).run P w = .ok cap w.drew := by simp [choose, Sem.run, q, Question.forced, cap]
      have hc : convert src dst (strV s) = convert src dst (.string ⟨⟨s⟩⟩) := rfl
      have hsize : (⟨⟨s⟩⟩ : ByteArray).size = s.length := rfl
      have hdata : ((⟨⟨s⟩⟩ : ByteArray).data.map fun b => Value.int .u8 b.toNat) = elems.toArray := by simp [elems]
      have hshape : w1.shape? w.heap.size = some (e, cells.size) := by simp [World.shape?, hw1]
      rw [hc]
      unfold convert
      simp only [Sem.run_bind, run_underlying hs', run_underlying hd', Result.andThen_ok, run_underlying he']
      unfold Conv.stringToBytes
      simp only [Sem.run_bind, hsize, hdata]
      rw [hch]
      simp only [Result.andThen_ok, newRow, Sem.run_bind, run_newObj, Sem.run_pure, World.alloc_eq, World.size_drew, markStringish, run_shape]
      have hshape' : (w.drew.alloc (.cells (elems.toArray ++ Array.replicate (cap - s.length) (.int .u8 0)) e)).shape? w.heap.size = some (e, cells.size) := hshape
      rw [hshape']
      simp only [run_freeze, Result.andThen_ok]
      rfl
    have hw2 : ∀ k, k ≠ w.heap.size → w2.heap[k]? = w1.heap[k]? := fun k hk => by
      simp [w2, World.freeze, Array.getElem?_modify, Ne.symm hk]
    have hw2' : w2.heap[w.heap.size]? = some (.cells cells e (cells.size, cells.size + 1)) := by
      simp [w2, World.freeze, Array.getElem?_modify, hw1]
    have hgr : w.grownBy w2 none := by
      refine ⟨rfl, rfl, rfl, ?_, fun k hk _ => ?_⟩
      · have : w2.heap.size = w1.heap.size := by simp [w2, World.freeze]
        rw [this]
        simp [w1]
      · rw [hw2 k (by omega)]
        exact heap_alloc_old w.drew _ k hk
    have hrel : LRel (EK.Rel rom (.int .u8)) (s.map fun b => (b.toNat : Int)) elems := bytes_rel s
    have haft := arr_aft (nid := nid) (w' := w2) (ext := cap) hR hL hrel hgr (by simp [elems]; omega)
      (fun j v hj => by
        have hlt := (List.getElem?_eq_some_iff.1 hj).1
        have : cells[j]? = some v := by
          simp only [cells]
          rw [Array.getElem?_append_left (by simpa using hlt)]
          simpa using hj
        simp [World.cell?, hw2', this])
      (fun j hj => by
        have : j < cells.size := by omega
        refine ⟨by simp [World.cell?, hw2', this], ?_⟩
        simp [frz, hw2']) hfree
    simp only [List.length_map] at haft
    refine ⟨_, _, rom, _, .inl (hrun _ _ hrun0), slw_new (rom := rom) (ρ := ρ) (b := w.heap.size) (o := 0) (ext := cap) (n := s.length) (fun _ => rfl) hcap (by simp), ?_⟩
    simpa [OR.eff, hgA, hgU, hgN, lkN] using haft
  · rename_i e hne hs hd
    split at h
    · cases h
    · rename_i he hns
      split at h <;> try (cases h; done)
      rename_i l c ids hc
      cases h
      have hd' := tdesc_ok hΓ hd
      have hs' := tdesc_ok hΓ hs
      have he' := tdesc_ok hΓ he
      simp only [DOK] at hd' hs' he'
      refine does_val (v := one (.str (l.map fun (n : Int) => UInt8.ofNat n.toNat))) (fun _ => rfl) hR hL fun hchk => ?_
      have hcont := content_ok (P := P) hR hc hchk hx
      obtain ⟨base, len, cap, hu, hb⟩ := content_slice hR hc (fun s hs => hns s (by simp [hs])) hx
      have := run_bts hu hb hcont
      refine ⟨_, hrun _ _ ?_, by simp only [one, TVRel, AVRel, CRel]; rfl⟩
      subst hu
      unfold convert
      simp only [Sem.run_bind, run_underlying hs', run_underlying hd', Result.andThen_ok, run_underlying he']
      exact this
    · cases h
  · rename_i e0 e id esz off len cap hs hd
    split at h <;> try (cases h; done)
    rename_i g he hgid
    split at h <;> try (cases h; done)
    rename_i hsd
    subst hsd
    split at h <;> try (cases h; done)
    rename_i hesz
    subst hesz
    cases h
    have hd' := tdesc_ok hΓ hd
    have he' := tdesc_ok hΓ he
    simp only [DOK] at hd' he'
    refine does_run fun x hx' hchk hf => ?_
    have hlen : 0 < len := by simpa [OR.eff] using hchk
    obtain ⟨r, base, c, h1, h2, h3, h4, h5, h6⟩ := hx
    obtain ⟨g', hr', hb⟩ : ∃ r', ρ id = some r' ∧ BRel rom ρ w g r' := hR.blk id g hgid
    rw [h1] at hr'
    cases hr'
    have hbase := h3 (by omega)
    have hown : Own hg ρ r.b (r.o + off) := ⟨id, g, r, hgid, h1, .inl ⟨rfl, by omega, by omega⟩⟩
    subst hbase
    subst h2
    obtain ⟨w', q1, q2, q3, q4⟩ := mark_ok (P := P) w ⟨r.b, r.o + off * 1, none⟩
    have hrun0 : (convert src src (.slice (some ⟨r.b, r.o + off * 1, none⟩) len c)).run P w = .ok (.slice (some ⟨r.b, r.o + off * 1, none⟩) len c) w' := by
      unfold convert
      simp only [Sem.run_bind, run_underlying hd', Result.andThen_ok, run_underlying he', beq_self_eq_true, q1, Sem.run_pure]
    refine ⟨_, w', rom, ρ, .inl (hrun _ _ hrun0), ⟨r, _, c, h1, rfl, fun _ => rfl, h4, h5, h6⟩, ?_⟩
    refine ⟨hR.world fun b o _ => q4 b o, hL, Tr.stored q2.1 q2.2.1 q2.2.2.1 q2.2.2.2 (fun _ _ h => h) (fun b hb' => ?_) (fun b o _ => q4 b o), fun _ h _ => h⟩
    refine q3 b fun e => ?_
    simp only at e
    subst e
    exact hb' _ hown
  · cases h

end
end Go.Rf

set_option linter.unusedVariables false
set_option linter.unusedSimpArgs false
set_option linter.unusedSectionVars false
namespace Go.Rf
open Go

/-- A call. -/
def CallDoes (P : Program) (f : FuncId) (vs : List Value) (w : World) (rom : Rom) (ρ : RM) (hg : Nat → Option Seg) (lk : Nat → Bool) (nid : Nat) (r : OR) : Prop :=
  (∃ fn, P.funcs[f]? = some fn ∧ fn.body.isSome = true ∧ (fn.name == "runtime.NumGoroutine") = false) ∧
  ∀ x, r.run = some x → r.chk = true → (∀ id, nid ≤ id → id < nid + (r.k x).new.length → hg id = none ∧ ρ id = none) →
    Calls P f vs.toArray w fun e w' => ∃ u rom' ρ', e = .returned u ∧ TVRel rom' ρ' (r.k x).v u ∧
      Aft rom ρ hg w rom' ρ' (hgA hg nid (r.k x)) (lkN lk nid (r.k x).new) w' nid (r.k x).new.length

/-- The calls' table tells the truth. -/
def TabC (P : Program) (C : Nat → List GS) : Prop :=
  ∀ f n args r hg lk nid, callL hg lk nid args ((C f).drop n) = some r → ∀ vs w rom ρ, R2 (TVRel rom ρ) args vs → Rel rom ρ hg w → Lnk ρ hg lk → CallDoes P f vs w rom ρ hg lk nid r

section
variable {P : Program} {Γ : Tab} {C : Nat → List GS} {T : List TV} {rom : Rom} {ρ : RM} {w w' : World} {hg : Nat → Option Seg} {lk : Nat → Bool} {nid : Nat} {a : Act}

theorem evals_rel (hT : TRel rom ρ T a.tmps) : ∀ (xs : List Operand), R2 (TVRel rom ρ) (xs.map (evalA T)) (xs.map a.eval)
  | [] => trivial
  | x :: xs => ⟨evalA_rel hT x, evals_rel hT xs⟩

theorem parts_rel (hT : TRel rom ρ T a.tmps) : ∀ (ps : List (Nat × Operand)), PsRel rom ρ (evalParts T ps) (ps.map fun (i, x) => (i, a.eval x))
  | [] => trivial
  | (i, x) :: ps => ⟨⟨rfl, evalA_rel hT x⟩, parts_rel hT ps⟩

theorem tvAC_rel {tv : TV} {c : AC} {v : Value} (h : tvAC tv = some c) (hv : TVRel rom ρ tv v) : CRel rom ρ c v := by
  unfold tvAC at h
  split at h <;> cases h
  exact hv

theorem capPtrs_rel : ∀ {l : List TV} {vs : List Value} {ps : List Ptr}, capPtrs l = some ps → R2 (TVRel rom ρ) l vs → R2 (PRel ρ) ps vs
  | [], [], ps, h, _ => by simp [capPtrs] at h; subst h; trivial
  | [], _ :: _, _, _, hr => hr.elim
  | x :: l, [], ps, h, hr => hr.elim
  | x :: l, v :: vs, ps, h, ⟨h1, h2⟩ => by
    unfold capPtrs at h
    split at h <;> try (cases h; done)
    · rename_i heq; cases heq
    · rename_i p r heq
      cases heq
      split at h <;> try (cases h; done)
      rename_i l' hl
      cases h
      exact ⟨h1, capPtrs_rel hl h2⟩

theorem orel_map (hT : TRel rom ρ T a.tmps) (x : Option Operand) : ORel rom ρ (x.map (evalA T)) (x.map a.eval) := by
  cases x with
  | none => trivial
  | some x => exact evalA_rel hT x

theorem builtinA_ok {o : Oper} (hΓ : TabOK P Γ) (hR : Rel rom ρ hg w) (hL : Lnk ρ hg lk) {b : Builtin} {ats : List Nat} {args : List TV} {r : OR} (h : builtinA Γ hg nid b ats args = some r) {vs : List Value} (hv : R2 (TVRel rom ρ) args vs)
    {ty : TypeId} {cs : Array Bool} (hrun : ∀ z w', (builtin b ats.toArray ty cs vs.toArray).run P w = .ok (.value z) w' → (execOp a.eval o).run P w = .ok (.value z) w') : Does P o a w rom ρ hg lk nid r := by
  unfold builtinA at h
  split at h
  · -- len
    rename_i t ats v args
    cases vs with
    | nil => exact hv.elim
    | cons v0 vs =>
    obtain ⟨hv0, _⟩ := hv
    have fin : ∀ {n : Nat}, (Builtin.len_ (t :: ats).toArray ty (v0 :: vs).toArray).run P w = .ok (goInt n) w → ∃ u, (execOp a.eval o).run P w = .ok (.value u) w ∧ TVRel rom ρ (one (.int .i64 (n : Int))) u := fun hh =>
      ⟨_, hrun _ _ (by simp only [builtin]; exact run_v hh), rfl⟩
    split at h
    · rename_i n e hd
      cases h
      have hok := tdesc_ok hΓ hd
      simp only [DOK] at hok
      refine does_val (fun _ => rfl) hR hL fun _ => fin ?_
      simp [Builtin.len_, run_underlying hok]
    · rename_i e hd
      have hok := tdesc_ok hΓ hd
      simp only [DOK] at hok
      split at h <;> try (cases h; done)
      rename_i n e' hd'
      cases h
      have hok' := tdesc_ok hΓ hd'
      simp only [DOK] at hok'
      refine does_val (fun _ => rfl) hR hL fun _ => fin ?_
      simp [Builtin.len_, run_underlying hok, run_underlying hok']
    · rename_i s hd
      cases h
      have hok := tdesc_ok hΓ hd
      simp only [DOK] at hok
      refine does_val (v := one (.int .i64 (s.length : Int))) (fun _ => rfl) hR hL fun _ => fin ?_
      simp only [TVRel, AVRel, CRel] at hv0
      subst hv0
      simp [Builtin.len_, run_underlying hok, strV]
      rfl
    · rename_i e c hd
      split at h <;> try (cases h; done)
      rename_i n ids hn
      cases h
      have hok := tdesc_ok hΓ hd
      simp only [DOK] at hok
      refine does_val (v := one (.int .i64 (n : Int))) (fun _ => rfl) hR hL fun _ => fin ?_
      unfold lenS at hn
      split at hn <;> try (cases hn; done)
      rename_i hns
      rcases lenA_ok hR hn hv0 with ⟨s, _, _, e'⟩ | ⟨base, cap, e'⟩
      · exact absurd e' (hns s)
      · subst e'
        simp [Builtin.len_, run_underlying hok]
    · cases h
  · -- append
    rename_i st xt x y
    match vs, hv with
    | [u, v], ⟨hx, hy, _⟩ =>
    split at h
    · rename_i e hd
      have hok := tdesc_ok hΓ hd
      simp only [DOK] at hok
      have hrun' : ∀ z w', (Builtin.append_ #[st, xt] ty #[u, v]).run P w = .ok z w' → _ := fun z w' hh => hrun z w' (by simp only [builtin]; simp only [Sem.run_bind]; have : (Builtin.append_ [st, xt].toArray ty [u, v].toArray).run P w = .ok z w' := hh; rw [this]; rfl)
      split at h
      · rename_i r0 h0
        cases h
        exact appendD_ok (ty := ty) hΓ hR hL hok (by simp) h0 hx hy hrun'
      · exact appendA_ok (ty := ty) hΓ hR hL hok (by simp) h hx hy hrun'
    · rename_i hd
      have hok := tdesc_ok hΓ hd
      simp only [DOK] at hok
      exact appendA_ok (ty := ty) hΓ hR hL hok (by simp) h hx hy (fun z w' hh => hrun z w' (by simp only [builtin]; simp only [Sem.run_bind]; have : (Builtin.append_ [st, xt].toArray ty [u, v].toArray).run P w = .ok z w' := hh; rw [this]; rfl))
    · rename_i ki hd
      have hok := tdesc_ok hΓ hd
      simp only [DOK] at hok
      split at h <;> try (cases h; done)
      rename_i ki' n
      have hy0 : v = .int ki' n := hy
      subst hy0
      exact appendZ_ok (ty := ty) hΓ hR hL hok h hx (fun z w' hh => hrun z w' (by simp only [builtin]; simp only [Sem.run_bind]; have : (Builtin.append_ [st, xt].toArray ty [u, .int ki' n].toArray).run P w = .ok z w' := hh; rw [this]; rfl))
    · cases h
  · -- copy
    rename_i dt xt x y
    match vs, hv with
    | [u, v], ⟨hx, hy, _⟩ =>
    exact copyA_ok (xt := xt) (ty := ty) hΓ hR hL h hx hy (fun z w' hh => hrun z w' (by simp only [builtin]; simp only [Sem.run_bind]; have : (Builtin.copy_ [dt, xt].toArray ty [u, v].toArray).run P w = .ok z w' := hh; rw [this]; rfl))
  · -- min
    rename_i k x k' y
    match vs, hv with
    | [u, v], ⟨hx, hy, _⟩ =>
    split at h <;> try (cases h; done)
    rename_i hk
    subst hk
    cases h
    simp only [TVRel, AVRel, CRel] at hx hy
    subst hx; subst hy
    exact does_val (fun _ => rfl) hR hL fun _ => ⟨_, hrun _ w (by simp [builtin, Builtin.min_, Builtin.min2]), rfl⟩
  · -- max
    rename_i k x k' y
    match vs, hv with
    | [u, v], ⟨hx, hy, _⟩ =>
    split at h <;> try (cases h; done)
    rename_i hk
    subst hk
    cases h
    simp only [TVRel, AVRel, CRel] at hx hy
    subst hx; subst hy
    exact does_val (fun _ => rfl) hR hL fun _ => ⟨_, hrun _ w (by simp [builtin, Builtin.max_, Builtin.max2]), rfl⟩
  · cases h

theorem run_next {s : Sem Value} {z : Value} (h : s.run P w = .ok z w') : (do pure (Next.value (← s)) : Sem Next).run P w = .ok (.value z) w' := by
  simp only [Sem.run_bind, h, Result.andThen_ok]; rfl

theorem segs_nonempty {v : AV} {s : List Seg} (h : v.segs = s) {g : Seg} {r : List Seg} (hs : s = g :: r) : s ≠ [] := by rw [hs]; simp

theorem opA_ok (hΓ : TabOK P Γ) (hC : TabC P C) {o : Oper} (hT : TRel rom ρ T a.tmps) (hR : Rel rom ρ hg w) (hL : Lnk ρ hg lk) {r : OR} (h : opA Γ C T hg lk nid o = some r) : Does P o a w rom ρ hg lk nid r := by
  obtain ⟨dst, op, type, pos, after, guard⟩ := o
  unfold opA at h
  cases op <;> simp only at h <;> try (cases h; done)
  case move x =>
    cases h
    exact does_val (fun _ => rfl) hR hL fun _ => ⟨_, rfl, evalA_rel hT x⟩
  case assign x =>
    cases h
    exact does_val (fun _ => rfl) hR hL fun _ => ⟨_, rfl, evalA_rel hT x⟩
  case pick c x y =>
    have hc := evalA_rel hT c
    have hx := evalA_rel hT x
    have hy := evalA_rel hT y
    have fin : ∀ {b : Bool} {tv : TV}, a.eval c = .bool b → TVRel rom ρ tv (if b then a.eval x else a.eval y) → Does P ⟨dst, .pick c x y, type, pos, after, guard⟩ a w rom ρ hg lk nid (.val tv) := fun hb hv =>
      does_val (fun _ => rfl) hR hL fun _ => ⟨_, by simp only [execOp, hb, asBool]; rfl, hv⟩
    split at h
    · rename_i v x' y' ec ex ey
      rw [ec] at hc; rw [ex] at hx; rw [ey] at hy
      split at h
      · rename_i c' hp
        cases h
        exact fin hc (pickA_ok hp hx hy)
      · split at h
        · cases h; exact fin hc hx
        · cases h; exact fin hc hy
    · rename_i ec _
      rw [ec] at hc
      cases h
      exact fin hc hx
    · rename_i ec _
      rw [ec] at hc
      cases h
      exact fin hc hy
    · cases h
  case alloc t =>
    split at h <;> try (cases h; done)
    rename_i ti ht
    split at h <;> try (cases h; done)
    rename_i hne
    split at h <;> try (cases h; done)
    rename_i hw
    cases h
    simp only [Bool.and_eq_true] at hw
    obtain ⟨p, hi, _, _, hzz⟩ := (hΓ t ti ht).info
    obtain ⟨zv, hz1, hz2⟩ := hzz (by intro h0; exact hne h0)
    refine boxA_ok (t := t) hR hL hw.1 (hz2 rom ρ) (by intro h0; exact hne h0) ?_
    simp only [execOp]
    refine run_next ?_
    simp [Instr.alloc, zeroValue, typeInfo, hi, hz1, newVar, newRow]
  case box t x =>
    split at h <;> try (cases h; done)
    rename_i v hv
    split at h <;> try (cases h; done)
    rename_i s hne
    split at h <;> try (cases h; done)
    rename_i hw
    cases h
    simp only [Bool.and_eq_true] at hw
    have hx := evalA_rel hT x
    rw [hv] at hx
    have hcs := segs_of_TV (tv := .av v) rfl hw.2 hx
    refine boxA_ok (t := t) hR hL hw.1 hcs (by intro h0; exact hne h0) ?_
    simp only [execOp]
    refine run_next ?_
    simp [Instr.box, newVar, newRow]
  case build t ps =>
    have hps := parts_rel hT ps.toList
    obtain ⟨v, hk, z, hz, hzr⟩ := buildA_ok (w := w) (pv := ps.map fun (i, x) => (i, a.eval x)) hΓ h (by simpa using hps)
    exact does_val hk hR hL fun _ => ⟨z, by simp only [execOp]; exact run_next hz, hzr⟩
  case buildSlice t n ps =>
    have hps := parts_rel hT ps.toList
    exact buildSliceA_ok (pv := ps.map fun (i, x) => (i, a.eval x)) hΓ hR hL h (by simpa using hps) (fun z w' hh => by simp only [execOp]; exact run_next hh)
  case load t x =>
    split at h <;> try (cases h; done)
    rename_i c hc
    obtain ⟨v, hk, hrun⟩ := loadA_ok hΓ hR hL h (tvAC_rel hc (evalA_rel hT x))
    exact does_val hk hR hL fun hchk => by
      obtain ⟨z, hz, hzr⟩ := hrun hchk
      exact ⟨z, by simp only [execOp]; exact run_next hz, hzr⟩
  case store t x v =>
    split at h <;> try (cases h; done)
    rename_i c s hc hs
    refine does_run fun y hy hchk hf => ?_
    obtain ⟨w', hrun, haft⟩ := storeA_ok hΓ hR hL h hs (tvAC_rel hc (evalA_rel hT x)) (evalA_rel hT v) nid hchk
    obtain ⟨h1, h2, h3⟩ := haft y
    refine ⟨undef, w', rom, ρ, .inr ⟨?_, rfl⟩, ?_, ?_⟩
    · simp only [execOp, Sem.run_bind, hrun, Result.andThen_ok]; rfl
    · rw [h1]; exact ⟨[], rfl, trivial⟩
    · rw [h2]; exact h3
  case nilCheck x =>
    have hx := evalA_rel hT x
    split at h
    · rename_i p hp
      rw [hp] at hx
      cases h
      obtain ⟨r0, hr0, e⟩ := hx
      refine does_val (fun _ => rfl) hR hL fun _ => ⟨a.eval x, ?_, r0, hr0, e⟩
      simp only [execOp]
      rw [e]; rfl
    · rename_i k y j hp
      rw [hp] at hx
      cases h
      obtain ⟨b0, o0, cs, e, e2⟩ := hx
      refine does_val (fun _ => rfl) hR hL fun _ => ⟨a.eval x, ?_, b0, o0, cs, e, e2⟩
      simp only [execOp]
      rw [e]; rfl
    · cases h
  case binOp op t x y yt =>
    have hx := evalA_rel hT x
    have hy := evalA_rel hT y
    unfold binA at h
    split at h
    · rename_i p q hp hq
      rw [hp] at hx; rw [hq] at hy
      split at h <;> try (cases h; done)
      rename_i c chk hc
      cases h
      refine does_val (fun _ => rfl) hR hL fun hchk => ?_
      obtain ⟨z, hz, hzr⟩ := acBin_ok (w := w) (xo := x) (yo := y) hΓ hc hchk hx hy
      exact ⟨z, by simp only [execOp]; exact run_next hz, hzr⟩
    · rename_i p q hp hq
      rw [hp] at hx; rw [hq] at hy
      split at h <;> try (cases h; done)
      rename_i ti ht
      split at h <;> try (cases h; done)
      rename_i k hk0
      have hagg : ti.d.isAgg = true := by
        by_cases hx : ti.d.isAgg = true
        · exact hx
        · rw [if_neg hx] at hk0; cases hk0
      have hk : ti.ek = some k := by rwa [if_pos hagg] at hk0
      split at h <;> try (cases h; done)
      rename_i x1 y1 h1 h2
      split at h <;> try (cases h; done)
      rename_i e he
      obtain ⟨cs, e1, hcs⟩ := hx
      obtain ⟨ds, e2, hds⟩ := hy
      obtain ⟨c1, d1, g1, g2, g3⟩ := EK.ofSegs_rel h1 hcs
      obtain ⟨c2, d2, g4, g5, g6⟩ := EK.ofSegs_rel h2 hds
      simp only [LRel] at g3 g6
      subst g3; subst g6
      simp only [List.append_nil] at g1 g4
      subst g1; subst g4
      obtain ⟨q1, q2⟩ := ((hΓ t ti ht).ek k hk).2.2 hagg x1 y1 e rom _ _ w he g2 g5
      have hguard : ∀ op', (op' = .eql ∨ op' = .neq) → (eqGuard op' t x y (.agg cs.toArray) (.agg ds.toArray)).run P w = .ok () w := fun op' ho => by
        unfold eqGuard
        rcases ho with ho | ho <;> subst ho <;> simp [q2]
      have := binOp_eql_gen (P := P) (w := w) (t := t) (u := .agg cs.toArray) (by simp) (by simp) (by simp) (by simp) q1
      split at h
      · cases h
        refine does_val (fun _ => rfl) hR hL fun _ => ⟨_, ?_, rfl⟩
        simp only [execOp]
        rw [e1, e2]
        refine run_next ?_
        simp only [Sem.run_bind, hguard .eql (.inl rfl), Result.andThen_ok]
        exact this.1
      · cases h
        refine does_val (fun _ => rfl) hR hL fun _ => ⟨_, ?_, rfl⟩
        simp only [execOp]
        rw [e1, e2]
        refine run_next ?_
        simp only [Sem.run_bind, hguard .neq (.inr rfl), Result.andThen_ok]
        exact this.2
      · cases h
    · cases h
  case unOp op t x =>
    split at h <;> try (cases h; done)
    rename_i c hc
    split at h <;> try (cases h; done)
    rename_i r0 hr0
    cases h
    obtain ⟨z, hz, hzr⟩ := unA_ok (P := P) (w := w) hr0 (tvAC_rel hc (evalA_rel hT x))
    exact does_val (fun _ => rfl) hR hL fun _ => ⟨z, by simp only [execOp]; exact run_next hz, hzr⟩
  case convert s d x =>
    split at h <;> try (cases h; done)
    rename_i c hc
    exact convA_ok hΓ hR hL h (tvAC_rel hc (evalA_rel hT x)) (fun z w' hh => by simp only [execOp]; exact run_next hh)
  case makeFunc fn first caps =>
    cases fn <;> simp only at h <;> try (cases h; done)
    rename_i f
    split at h <;> try (cases h; done)
    rename_i ps hf0 hps
    cases h
    have hr := capPtrs_rel hps (evals_rel hT caps.toList)
    refine does_val (fun _ => rfl) hR hL fun _ => ⟨_, by simp only [execOp]; exact run_next rfl, ?_⟩
    refine ⟨caps.toList.map a.eval, ?_, hr⟩
    have : first = #[] := by apply Array.ext'; simpa using hf0
    subst this
    simp only [List.map_toArray, List.map_nil]
    congr 1
    apply Array.ext'
    simp
  case makeSlice t l c =>
    split at h <;> try (cases h; done)
    rename_i k1 x k2 y hl hc
    have e1 := intA_ok hl (evalA_rel hT l)
    have e2 := intA_ok hc (evalA_rel hT c)
    refine makeSliceA_ok (k1 := k1) (k2 := k2) hΓ hR hL h (fun hs => ?_) (fun z w' hh => by simp only [execOp, e1, e2]; exact run_next hh)
    unfold opSame at hs
    split at hs
    · rename_i p q
      simp only [beq_iff_eq] at hs
      subst hs
      rw [hl] at hc
      cases hc; rfl
    · rename_i p q
      simp only [beq_iff_eq] at hs
      subst hs
      simp only [Act.eval] at e1 e2
      cases e1; cases e2; rfl
    · cases hs
  case slice t x lo hi mx =>
    split at h <;> try (cases h; done)
    rename_i c hc
    obtain ⟨v, hk, hrun⟩ := sliceA_ok hΓ hR h (tvAC_rel hc (evalA_rel hT x)) (orel_map hT lo) (orel_map hT hi) (orel_map hT mx)
    exact does_val hk hR hL fun hchk => by
      obtain ⟨z, hz, hzr⟩ := hrun hchk
      exact ⟨z, by simp only [execOp]; exact run_next hz, hzr⟩
  case fieldAddr t x f =>
    split at h <;> try (cases h; done)
    rename_i c hc
    obtain ⟨v, hk, hrun⟩ := fieldAddrA_ok hΓ hR hL h (tvAC_rel hc (evalA_rel hT x))
    exact does_val hk hR hL fun hchk => by
      obtain ⟨z, hz, hzr⟩ := hrun hchk
      exact ⟨z, by simp only [execOp]; exact run_next hz, hzr⟩
  case field t x f =>
    split at h <;> try (cases h; done)
    rename_i v hv
    cases h
    obtain ⟨z, hz, hzr⟩ := fieldA_ok (P := P) (w := w) hΓ hv (evalA_rel hT x)
    exact does_val (fun _ => rfl) hR hL fun _ => ⟨z, by simp only [execOp]; exact run_next hz, hzr⟩
  case indexAddr t x i =>
    split at h <;> try (cases h; done)
    rename_i c k n hc hn
    have e1 := intA_ok hn (evalA_rel hT i)
    obtain ⟨v, hk, hrun⟩ := indexAddrA_ok (ki := k) hΓ hR h (tvAC_rel hc (evalA_rel hT x))
    exact does_val hk hR hL fun hchk => by
      obtain ⟨z, hz, hzr⟩ := hrun hchk
      exact ⟨z, by simp only [execOp, e1]; exact run_next hz, hzr⟩
  case index t x i =>
    split at h <;> try (cases h; done)
    rename_i k n hn
    have e1 := intA_ok hn (evalA_rel hT i)
    obtain ⟨v, hk, hrun⟩ := indexA_ok (P := P) (w := w) (ki := k) hΓ h (evalA_rel hT x)
    exact does_val hk hR hL fun hchk => by
      obtain ⟨z, hz, hzr⟩ := hrun hchk
      exact ⟨z, by simp only [execOp, e1]; exact run_next hz, hzr⟩
  case extract x i =>
    have hx := evalA_rel hT x
    split at h <;> try (cases h; done)
    rename_i l hl
    rw [hl] at hx
    split at h <;> try (cases h; done)
    rename_i v hv
    cases h
    obtain ⟨vs, e, hvs⟩ := hx
    obtain ⟨z, hz, hzr⟩ := R2.get hvs i v hv
    refine does_val (fun _ => rfl) hR hL fun _ => ⟨z, ?_, hzr⟩
    simp only [execOp]
    refine run_next ?_
    rw [e]
    simp [Instr.extract, hz]
  case call c =>
    obtain ⟨callee, args, ats⟩ := c
    cases callee <;> simp only at h <;> try (cases h; done)
    case value f =>
      have hf := evalA_rel hT f
      split at h <;> try (cases h; done)
      rename_i f0 caps hf0
      rw [hf0] at hf
      obtain ⟨cl, e, hcl⟩ := hf
      have hcaps : R2 (TVRel rom ρ) (caps.map fun p => one (.ptr p)) cl := R2.map (S := TVRel rom ρ) (f := fun p => one (.ptr p)) (fun p v hp => hp) hcl
      obtain ⟨⟨fn, hfn, hb, hname⟩, hdo⟩ := hC f0 0 _ r hg lk nid h _ w rom ρ (R2.append (evals_rel hT args.toList) hcaps) hR hL
      intro x hx hchk hfree Q
      have hcall := hdo x hx hchk hfree
      unfold Oper.wp
      have hrun : (execOp a.eval ⟨dst, .call ⟨.value f, args, ats⟩, type, pos, after, guard⟩).run P w = .ok (.enter f0 (args.toList.map a.eval ++ cl).toArray) w := by
        have hargs : args.map a.eval ++ cl.toArray = (args.toList.map a.eval ++ cl).toArray := by
          apply Array.ext'; simp
        obtain ⟨body, hbody⟩ := Option.isSome_iff_exists.1 hb
        simp only [execOp, resolve, e, Deferred.ofValue, Sem.run_bind, Sem.run_pure, Result.andThen_ok, invoke, callFunc, run_program, hfn, hname]
        simp [hbody, ← hargs]
      rw [hrun]
      simp only [Oper.upon]
      refine Calls.mono hcall fun e w' he => ?_
      obtain ⟨u, rom', ρ', h1, h2, h3⟩ := he
      subst h1
      exact ⟨u, rom', ρ', rfl, h2, h3⟩
    case builtin b =>
      refine builtinA_ok (ty := type) (cs := args.map fun | .const _ => true | _ => false) hΓ hR hL h (evals_rel hT args.toList) (fun z w' hh => ?_)
      have e1 : ats.toList.toArray = ats := by simp
      have e2 : (args.toList.map a.eval).toArray = args.map a.eval := by apply Array.ext'; simp
      rw [e1, e2] at hh
      simp only [execOp, resolve, Sem.run_bind, Sem.run_pure, Result.andThen_ok, invoke]
      exact hh

end
end Go.Rf

set_option linter.unusedVariables false
set_option linter.unusedSimpArgs false
set_option linter.unusedSectionVars false
namespace Go.Rf
open Go

/-- From a state to a later one; the blocks may have other numbers. -/
structure TrW (rom : Rom) (ρ : RM) (hg : Nat → Option Seg) (w : World) (rom' : Rom) (ρ' : RM) (hg' : Nat → Option Seg) (w' : World) : Prop where
  rl : ∀ b o v, rom b o = some v → rom' b o = some v
  size : w.heap.size ≤ w'.heap.size
  os : w'.os = w.os
  tape : w'.tape = w.tape
  output : w'.output = w.output
  u1 : ∀ b, b < w.heap.size → (∀ o, ¬ Own hg ρ b o) → w'.heap[b]? = w.heap[b]?
  u2 : ∀ b o, b < w.heap.size → ¬ Own hg ρ b o → w'.cell? ⟨b, o, none⟩ = w.cell? ⟨b, o, none⟩ ∧ frz w' b = frz w b
  fresh : ∀ b o, Own hg' ρ' b o → b < w.heap.size → Own hg ρ b o
  rfresh : ∀ b o v, rom' b o = some v → rom b o = none → b < w.heap.size → Own hg ρ b o

theorem Tr.w {rom rom' : Rom} {ρ ρ' : RM} {hg hg' : Nat → Option Seg} {w w' : World} (h : Tr rom ρ hg w rom' ρ' hg' w') : TrW rom ρ hg w rom' ρ' hg' w' :=
  ⟨h.rl, h.size, h.os, h.tape, h.output, h.u1, h.u2, h.fresh, h.rfresh⟩

theorem TrW.tr {rom rom' : Rom} {ρ ρ' : RM} {hg hg' : Nat → Option Seg} {w w' : World} (h : TrW rom ρ hg w rom' ρ' hg' w') (hl : ∀ id r, ρ id = some r → ρ' id = some r) : Tr rom ρ hg w rom' ρ' hg' w' :=
  ⟨h.rl, hl, h.size, h.os, h.tape, h.output, h.u1, h.u2, h.fresh, h.rfresh⟩

theorem TrW.trans {rom rom1 rom2 : Rom} {ρ ρ1 ρ2 : RM} {hg hg1 hg2 : Nat → Option Seg} {w w1 w2 : World}
    (a : TrW rom ρ hg w rom1 ρ1 hg1 w1) (b : TrW rom1 ρ1 hg1 w1 rom2 ρ2 hg2 w2) : TrW rom ρ hg w rom2 ρ2 hg2 w2 where
  rl := fun x o v h => b.rl _ _ _ (a.rl _ _ _ h)
  size := Nat.le_trans a.size b.size
  os := b.os.trans a.os
  tape := b.tape.trans a.tape
  output := b.output.trans a.output
  u1 := fun k hk h => (b.u1 k (Nat.lt_of_lt_of_le hk a.size) (fun o ho => h o (a.fresh k o ho hk))).trans (a.u1 k hk h)
  u2 := fun k o hk h => by
    obtain ⟨p, q⟩ := a.u2 k o hk h
    obtain ⟨p', q'⟩ := b.u2 k o (Nat.lt_of_lt_of_le hk a.size) (fun ho => h (a.fresh k o ho hk))
    exact ⟨p'.trans p, q'.trans q⟩
  fresh := fun k o ho hk => a.fresh k o (b.fresh k o ho (Nat.lt_of_lt_of_le hk a.size)) hk
  rfresh := fun k o v h1 h0 hk => by
    cases hr : rom1 k o with
    | none => exact a.fresh k o (b.rfresh k o v h1 hr (Nat.lt_of_lt_of_le hk a.size)) hk
    | some u => exact a.rfresh k o u hr h0 hk

/-- Of another set of blocks that owns the same at the end, no more at the start. -/
theorem TrW.own {rom rom' : Rom} {ρ ρ' ρ1 ρ2 : RM} {hg hg' hg1 hg2 : Nat → Option Seg} {w w' : World} (h : TrW rom ρ hg w rom' ρ' hg' w')
    (h1 : ∀ b o, Own hg ρ b o → Own hg1 ρ1 b o) (h2 : ∀ b o, Own hg2 ρ2 b o → b < w.heap.size → Own hg' ρ' b o ∨ Own hg1 ρ1 b o) : TrW rom ρ1 hg1 w rom' ρ2 hg2 w' :=
  ⟨h.rl, h.size, h.os, h.tape, h.output, fun b hb ho => h.u1 b hb fun o hh => ho o (h1 _ _ hh), fun b o hb ho => h.u2 b o hb fun hh => ho (h1 _ _ hh),
    fun b o ho hb => (h2 b o ho hb).elim (fun h3 => h1 _ _ (h.fresh b o h3 hb)) id, fun b o v a1 a2 a3 => h1 _ _ (h.rfresh b o v a1 a2 a3)⟩

section
variable {rom rom' : Rom} {ρ ρ' : RM} {hg hgR hg' hg2 : Nat → Option Seg} {w w' : World}

/-- Blocks that the part at work does not know stay as they were. -/
theorem Rel.frame (h : Rel rom ρ hg w) {ρR : RM} (hsub : ∀ id g, hgR id = some g → ∃ g0, hg id = some g0) (hρ : ∀ id g r, hgR id = some g → ρR id = some r → ρ id = some r)
    (tr : TrW rom ρR hgR w rom' ρ' hg' w') (h' : Rel rom' ρ' hg' w')
    (hl : ∀ id g r, hg id = some g → hgR id = none → ρ id = some r → ρ' id = some r)
    (hmono : ∀ id g r, hg id = some g → hgR id = none → ρ id = some r → ∀ cs, SegRel rom ρ g cs → SegRel rom' ρ' g cs)
    (hc : ∀ id g, hg2 id = some g → hg' id = some g ∨ (hg id = some g ∧ hgR id = none)) : Rel rom' ρ' hg2 w' := by
  have notR : ∀ id g r b o, hg id = some g → hgR id = none → ρ id = some r → r.has b o → ¬ Own hgR ρR b o := by
    rintro id g r b o h1 h2 h3 h4 ⟨id2, g2, r2, a1, a2, a3⟩
    obtain ⟨g0, hg0⟩ := hsub id2 g2 a1
    have hne : id ≠ id2 := fun e => by subst e; rw [h2] at a1; cases a1
    exact h.dis id id2 g g0 r r2 h1 hg0 hne h3 (hρ _ _ _ a1 a2) b o h4 a3
  have lt : ∀ id g r b o, hg id = some g → ρ id = some r → r.has b o → b < w.heap.size := fun id g r b o h1 h3 h4 => h.lt ⟨id, g, r, h1, h3, h4⟩
  have kept : ∀ id g, hg id = some g → hgR id = none → ∃ r, ρ id = some r ∧ ρ' id = some r ∧ BRel rom' ρ' w' g r := by
    intro id g h1 h2
    obtain ⟨r, hr, hb⟩ := h.blk id g h1
    refine ⟨r, hr, hl id g r h1 h2 hr, ?_⟩
    have hb' := hb.world (w' := w') fun b o ho => tr.u2 b o (lt id g r _ _ h1 hr ho) (notR id g r _ _ h1 h2 hr ho)
    obtain ⟨⟨cs, c1, c2, c3⟩, c4, c5, c6⟩ := hb'
    exact ⟨⟨cs, hmono id g r h1 h2 hr cs c1, c2, c3⟩, c4, c5, c6⟩
  have cross : ∀ id g r id2 g2 r2 b o, hg id = some g → hgR id = none → ρ id = some r → hg' id2 = some g2 → ρ' id2 = some r2 → r.has b o → r2.has b o → False := fun id g r id2 g2 r2 b o h1 h2 h3 h4 h5 h6 h7 =>
    notR id g r b o h1 h2 h3 h6 (tr.fresh b o ⟨id2, g2, r2, h4, h5, h7⟩ (lt id g r b o h1 h3 h6))
  refine ⟨fun id g hid => ?_, fun id id2 g g2 r r2 h1 h2 hne h3 h4 b o h5 h6 => ?_, fun b o v hv => ⟨(h'.rm b o v hv).1, fun id g r h1 h2 h3 => ?_⟩, h'.base⟩
  · rcases hc id g hid with h1 | ⟨h1, h2⟩
    · exact h'.blk id g h1
    · obtain ⟨r, _, a, b⟩ := kept id g h1 h2; exact ⟨r, a, b⟩
  · rcases hc id g h1 with a | ⟨a, a'⟩
    · rcases hc id2 g2 h2 with c | ⟨c, c'⟩
      · exact h'.dis id id2 g g2 r r2 a c hne h3 h4 b o h5 h6
      · obtain ⟨q, q1, q2, _⟩ := kept id2 g2 c c'
        rw [h4] at q2; cases q2
        exact cross id2 g2 r2 id g r b o c c' q1 a h3 h6 h5
    · obtain ⟨p, p1, p2, _⟩ := kept id g a a'
      rw [h3] at p2; cases p2
      rcases hc id2 g2 h2 with c | ⟨c, c'⟩
      · exact cross id g r id2 g2 r2 b o a a' p1 c h4 h5 h6
      · obtain ⟨q, q1, q2, _⟩ := kept id2 g2 c c'
        rw [h4] at q2; cases q2
        exact h.dis id id2 g g2 r r2 a c hne p1 q1 b o h5 h6
  · rcases hc id g h1 with a | ⟨a, a'⟩
    · exact (h'.rm b o v hv).2 id g r a h2 h3
    · obtain ⟨p, p1, p2, _⟩ := kept id g a a'
      rw [h2] at p2; cases p2
      cases hr : rom b o with
      | some u => exact (h.rm b o u hr).2 id g r a p1 h3
      | none => exact notR id g r b o a a' p1 h3 (tr.rfresh b o v hv hr (lt id g r b o a p1 h3))

theorem Rel.sub (h : Rel rom ρ hg w) (hc : ∀ id g, hg2 id = some g → hg id = some g) : Rel rom ρ hg2 w :=
  ⟨fun id g hid => h.blk id g (hc _ _ hid), fun id id' g g' r r' h1 h2 => h.dis id id' g g' r r' (hc _ _ h1) (hc _ _ h2),
    fun b o v hv => ⟨(h.rm b o v hv).1, fun id g r h1 => (h.rm b o v hv).2 id g r (hc _ _ h1)⟩, h.base⟩

theorem Lnk.sub {lk lk2 : Nat → Bool} (h : Lnk ρ hg lk) (hc : ∀ id g, hg2 id = some g → hg id = some g) (hk : ∀ id, lk2 id = true → lk id = true) : Lnk ρ hg2 lk2 :=
  fun id r g wd h1 h2 h3 h4 => h id r g wd (hk _ h1) h2 (hc _ _ h3) h4

end

theorem TRel.of_get {rom : Rom} {ρ : RM} {T : List TV} {tmps : Array Value} (hs : T.length = tmps.size) (h : ∀ t, TVRel rom ρ (T.getD t unkT) (tmps.getD t undef)) : TRel rom ρ T tmps := by
  have key : ∀ (T : List TV) (l : List Value), T.length = l.length → (∀ t, TVRel rom ρ (T.getD t unkT) (l.getD t undef)) → R2 (TVRel rom ρ) T l := by
    intro T
    induction T with
    | nil => intro l h _; cases l with | nil => trivial | cons => simp at h
    | cons x T ih =>
      intro l h h'
      cases l with
      | nil => simp at h
      | cons v l => exact ⟨by simpa using h' 0, ih l (by simpa using h) fun t => by simpa using h' (t + 1)⟩
  refine key T tmps.toList (by simpa using hs) fun t => ?_
  have := h t
  simpa [List.getD] using this

/-- A state of code. -/
structure Sta (nt : Nat) (rom : Rom) (ρ : RM) (c : Cf) (a : Act) (w : World) : Prop where
  t : TRel rom ρ c.T a.tmps
  rel : Rel rom ρ (hget c.H) w
  lnk : Lnk ρ (hget c.H) (hlink c.H)
  dom : ∀ id, c.H.length ≤ id → ρ id = none
  df : a.defers = []
  nt : a.tmps.size = nt

theorem Sta.len {nt : Nat} {rom : Rom} {ρ : RM} {c : Cf} {a : Act} {w : World} (h : Sta nt rom ρ c a w) : c.T.length = nt := by
  have := R2.length h.t
  rw [this]; simpa using h.nt

/-- What code leaves of the blocks that were there. -/
structure Frm (c c' : Cf) : Prop where
  len : c.H.length ≤ c'.H.length
  lnk : ∀ id, id < c.H.length → hlink c'.H id = hlink c.H id
  blk : ∀ id, id < c.H.length → id ∉ c'.W → hget c'.H id = hget c.H id
  W : ∀ id, id ∈ c.W → id ∈ c'.W

theorem Frm.refl (c : Cf) : Frm c c := ⟨Nat.le_refl _, fun _ _ => rfl, fun _ _ _ => rfl, fun _ h => h⟩

theorem Frm.trans {c c1 c2 : Cf} (a : Frm c c1) (b : Frm c1 c2) : Frm c c2 :=
  ⟨Nat.le_trans a.len b.len, fun id h => (b.lnk id (Nat.lt_of_lt_of_le h a.len)).trans (a.lnk id h),
    fun id h hw => (b.blk id (Nat.lt_of_lt_of_le h a.len) hw).trans (a.blk id h fun h' => hw (b.W id h')), fun id h => b.W id (a.W id h)⟩

structure Post (nt : Nat) (as : List Nat) (rom : Rom) (ρ : RM) (c : Cf) (a : Act) (w : World) (rom' : Rom) (ρ' : RM) (c' : Cf) (a' : Act) (w' : World) : Prop where
  st : Sta nt rom' ρ' c' a' w'
  tr : Tr rom ρ (hget c.H) w rom' ρ' (hget c'.H) w'
  fr : Frm c c'
  tm : ∀ t, t ∉ as → a'.tmps[t]? = a.tmps[t]?

theorem Post.refl {nt : Nat} {as : List Nat} {rom : Rom} {ρ : RM} {c : Cf} {a : Act} {w : World} (h : Sta nt rom ρ c a w) : Post nt as rom ρ c a w rom ρ c a w :=
  ⟨h, Tr.refl _ _ _ _, Frm.refl _, fun _ _ => rfl⟩

theorem Post.trans {nt : Nat} {as1 as2 as : List Nat} {rom rom1 rom2 : Rom} {ρ ρ1 ρ2 : RM} {c c1 c2 : Cf} {a a1 a2 : Act} {w w1 w2 : World}
    (x : Post nt as1 rom ρ c a w rom1 ρ1 c1 a1 w1) (y : Post nt as2 rom1 ρ1 c1 a1 w1 rom2 ρ2 c2 a2 w2) (h1 : ∀ t, t ∈ as1 → t ∈ as) (h2 : ∀ t, t ∈ as2 → t ∈ as) : Post nt as rom ρ c a w rom2 ρ2 c2 a2 w2 :=
  ⟨y.st, x.tr.trans y.tr, x.fr.trans y.fr, fun t ht => (y.tm t fun h => ht (h2 t h)).trans (x.tm t fun h => ht (h1 t h))⟩

theorem Post.mono {nt : Nat} {as1 as : List Nat} {rom rom1 : Rom} {ρ ρ1 : RM} {c c1 : Cf} {a a1 : Act} {w w1 : World}
    (x : Post nt as1 rom ρ c a w rom1 ρ1 c1 a1 w1) (h1 : ∀ t, t ∈ as1 → t ∈ as) : Post nt as rom ρ c a w rom1 ρ1 c1 a1 w1 :=
  ⟨x.st, x.tr, x.fr, fun t ht => x.tm t fun h => ht (h1 t h)⟩

/-! What an effect does to the list of blocks -/

theorem hget_set (H : Hp) (i : Nat) (s : Option Seg) (b : Bool) (hi : i < H.length) (j : Nat) : hget (H.set i (s, b)) j = setF (hget H) i s j := by
  simp only [hget_def]; unfold setF
  simp only [hget_def]
  by_cases e : j = i
  · subst e; simp [hi]
  · simp [e, List.getElem?_set_ne (Ne.symm e)]

theorem hget_updH (H : Hp) (i : Nat) (s : Option Seg) (hi : i < H.length) : hget (updH H i s) = setF (hget H) i s := by
  funext j
  unfold updH
  have : H[i]? = some H[i] := by simp [hi]
  rw [this]
  exact hget_set H i s _ hi j

theorem updH_length (H : Hp) (i : Nat) (s : Option Seg) : (updH H i s).length = H.length := by
  unfold updH; split <;> simp

theorem hlink_updH (H : Hp) (i : Nat) (s : Option Seg) : hlink (updH H i s) = hlink H := by
  funext j
  unfold updH
  split
  · rename_i x b hb
    simp only [hlink_def]
    by_cases e : j = i
    · subst e
      have hi : j < H.length := (List.getElem?_eq_some_iff.1 hb).1
      simp [hi, hb]
      have := (List.getElem?_eq_some_iff.1 hb).2
      rw [this]
    · simp [List.getElem?_set_ne (Ne.symm e)]
  · rfl

theorem updAll_length : ∀ (u : List (Nat × Option Seg)) (H : Hp), (updAll H u).length = H.length
  | [], _ => rfl
  | (i, s) :: u, H => by simp [updAll, updAll_length u, updH_length]

theorem hlink_updAll : ∀ (u : List (Nat × Option Seg)) (H : Hp), hlink (updAll H u) = hlink H
  | [], _ => rfl
  | (i, s) :: u, H => by simp [updAll, hlink_updAll u, hlink_updH]

theorem updsOk_spec : ∀ {u : List (Nat × Option Seg)} {n : Nat} {wr : List Nat}, updsOk n wr u = true → ∀ x ∈ u, x.1 < n ∧ x.1 ∈ wr
  | [], _, _, _, x, hx => by cases hx
  | (i, s) :: u, n, wr, h, x, hx => by
    simp only [updsOk, Bool.and_eq_true] at h
    obtain ⟨h1, h2, h3⟩ := h
    cases hx with
    | head => exact ⟨by simpa [Nat.blt_eq] using h1, by rw [memN_eq] at h2; simpa using h2⟩
    | tail _ hx => exact updsOk_spec h3 x hx

theorem hget_updAll : ∀ (u : List (Nat × Option Seg)) (H : Hp), (∀ x ∈ u, x.1 < H.length) → hget (updAll H u) = hgU (hget H) u
  | [], _, _ => rfl
  | (i, s) :: u, H, h => by
    simp only [updAll, hgU]
    rw [hget_updAll u _ (fun x hx => by rw [updH_length]; exact h x (by simp [hx])), hget_updH H i s (h (i, s) (by simp))]

theorem hgN_lt (hg : Nat → Option Seg) : ∀ (L : List (Seg × Bool)) (n i : Nat), i < n → hgN hg n L i = hg i
  | [], _, _, _ => rfl
  | (g, b) :: L, n, i, h => by
    simp only [hgN]
    rw [setF_ne _ _ (by omega)]
    exact hgN_lt hg L (n + 1) i (by omega)

theorem lkN_lt (lk : Nat → Bool) : ∀ (L : List (Seg × Bool)) (n i : Nat), i < n → lkN lk n L i = lk i
  | [], _, _, _ => rfl
  | (g, b) :: L, n, i, h => by
    simp only [lkN]
    rw [setF_ne _ _ (by omega)]
    exact lkN_lt lk L (n + 1) i (by omega)

theorem hgN_at (hg : Nat → Option Seg) : ∀ (L : List (Seg × Bool)) (n i : Nat), hgN hg n L i = if n ≤ i then (match L[i - n]? with | some x => some x.1 | none => hg i) else hg i
  | [], n, i => by simp [hgN]
  | (g, b) :: L, n, i => by
    simp only [hgN]
    by_cases e : i = n
    · subst e; simp
    · rw [setF_ne _ _ e, hgN_at hg L (n + 1) i]
      by_cases h : n ≤ i
      · have h1 : n + 1 ≤ i := by omega
        have h2 : i - n = (i - (n + 1)) + 1 := by omega
        simp [h, h1, h2]
      · have h1 : ¬ n + 1 ≤ i := by omega
        simp [h, h1]

theorem lkN_at (lk : Nat → Bool) : ∀ (L : List (Seg × Bool)) (n i : Nat), lkN lk n L i = if n ≤ i then (match L[i - n]? with | some x => x.2 | none => lk i) else lk i
  | [], n, i => by simp [lkN]
  | (g, b) :: L, n, i => by
    simp only [lkN]
    by_cases e : i = n
    · subst e; simp
    · rw [setF_ne _ _ e, lkN_at lk L (n + 1) i]
      by_cases h : n ≤ i
      · have h1 : n + 1 ≤ i := by omega
        have h2 : i - n = (i - (n + 1)) + 1 := by omega
        simp [h, h1, h2]
      · have h1 : ¬ n + 1 ≤ i := by omega
        simp [h, h1]

theorem hget_append (H : Hp) (L : List (Seg × Bool)) : hget (H ++ L.map fun (s, b) => (some s, b)) = hgN (hget H) H.length L := by
  funext i
  rw [hgN_at]
  simp only [hget_def]
  by_cases h : H.length ≤ i
  · rw [if_pos h, List.getElem?_append_right h, List.getElem?_map]
    have : H[i]? = none := by simp; omega
    cases L[i - H.length]? <;> simp [this]
  · rw [if_neg h, List.getElem?_append_left (by omega)]

theorem hlink_append (H : Hp) (L : List (Seg × Bool)) : hlink (H ++ L.map fun (s, b) => (some s, b)) = lkN (hlink H) H.length L := by
  funext i
  rw [lkN_at]
  simp only [hlink_def]
  by_cases h : H.length ≤ i
  · rw [if_pos h, List.getElem?_append_right h, List.getElem?_map]
    have : H[i]? = none := by simp; omega
    cases L[i - H.length]? <;> simp [this]
  · rw [if_neg h, List.getElem?_append_left (by omega)]

theorem hget_applyE {d : Option Nat} {e : Eff} {c : Cf} (h : ∀ x ∈ e.upd, x.1 < c.H.length) : hget (applyE d e c).H = hgA (hget c.H) c.H.length e := by
  unfold applyE hgA
  simp only
  rw [hget_append, hget_updAll _ _ h, updAll_length]

theorem hlink_applyE {d : Option Nat} {e : Eff} {c : Cf} : hlink (applyE d e c).H = lkN (hlink c.H) c.H.length e.new := by
  unfold applyE
  simp only
  rw [hlink_append, hlink_updAll, updAll_length]

theorem hget_none {H : Hp} {i : Nat} (h : H.length ≤ i) : hget H i = none := by
  simp only [hget_def]
  have : H[i]? = none := by simp; omega
  simp [this]

theorem hgU_other (hg : Nat → Option Seg) : ∀ (u : List (Nat × Option Seg)) (i : Nat), (∀ x ∈ u, x.1 ≠ i) → hgU hg u i = hg i
  | [], _, _ => rfl
  | (j, s) :: u, i, h => by
    simp only [hgU]
    rw [hgU_other _ u i fun x hx => h x (by simp [hx]), setF_ne _ _ (Ne.symm (h (j, s) (by simp)))]

/-- One operation, done at a state. -/
theorem Sta.step {nt : Nat} {rom rom' : Rom} {ρ ρ' : RM} {c : Cf} {a : Act} {w w' : World} {d : Option Nat} {e : Eff} {u : Value} (h : Sta nt rom ρ c a w)
    (hu : ∀ x ∈ e.upd, x.1 < c.H.length) (hv : TVRel rom' ρ' e.v u) (haft : Aft rom ρ (hget c.H) w rom' ρ' (hgA (hget c.H) c.H.length e) (lkN (hlink c.H) c.H.length e.new) w' c.H.length e.new.length) :
    Post nt d.toList rom ρ c a w rom' ρ' (applyE d e c) (a.put d u) w' := by
  have hT : TRel rom' ρ' c.T a.tmps := R2.mono (fun _ _ => TVRel.mono haft.tr.rl haft.tr.hl) _ _ h.t
  have hlen : (applyE d e c).H.length = c.H.length + e.new.length := by simp [applyE, updAll_length]
  refine ⟨⟨TRel.put hT d hv, by rw [hget_applyE hu]; exact haft.rel, by rw [hget_applyE hu, hlink_applyE]; exact haft.lnk, fun id hid => haft.dom id (h.dom id (by omega)) (.inr (by omega)), ?_, ?_⟩, by rw [hget_applyE hu]; exact haft.tr, ⟨by omega, fun id hid => ?_, fun id hid hw => ?_, fun id hid => mem_addW.2 (List.mem_append.2 (.inr hid))⟩, fun t ht => ?_⟩
  · cases d <;> exact h.df
  · cases d <;> simp [Act.put, h.nt]
  · rw [hlink_applyE, lkN_lt _ _ _ _ hid]
  · rw [hget_applyE hu]
    unfold hgA
    rw [hgN_lt _ _ _ _ hid]
    refine hgU_other _ _ _ fun x hx he => hw ?_
    exact mem_addW.2 (List.mem_append.2 (.inl (List.mem_map.2 ⟨x, hx, he⟩)))
  · cases d with
    | none => rfl
    | some d =>
      simp only [Option.toList_some, List.mem_singleton] at ht
      simp only [Act.put]
      rw [Array.getElem?_setIfInBounds_ne (Ne.symm ht)]

end Go.Rf

set_option linter.unusedVariables false
set_option linter.unusedSimpArgs false
set_option linter.unusedSectionVars false
namespace Go.Rf
open Go

section
variable {rom : Rom} {ρ ρ' : RM} {w : World} {hg : Nat → Option Seg} {bs : List (BSh × Bool)}

def Ext (ρ ρ' : RM) : Prop := ∀ id r, ρ id = some r → ρ' id = some r
def HZ (ρ' : RM) (nid : Nat) (l : List Seg) : Prop := ∀ i, i < l.length → ∃ r, ρ' (nid + i) = some r ∧ r.n = 0
/-- A block's length is that of its content. -/
def HLen (hg : Nat → Option Seg) (ρ : RM) : Prop := ∀ id k l r, hg id = some (.arr k none l) → ρ id = some r → l.length = r.n
def Emp (l : List Seg) : Prop := ∀ g ∈ l, (∃ k, g = Seg.arr k none []) ∨ ∃ k, g = Seg.deep k []

theorem HZ.left {nid : Nat} {a b : List Seg} (h : HZ ρ' nid (a ++ b)) : HZ ρ' nid a := fun i hi => h i (by simp; omega)
theorem HZ.right {nid : Nat} {a b : List Seg} (h : HZ ρ' nid (a ++ b)) : HZ ρ' (nid + a.length) b := fun i hi => by
  have := h (a.length + i) (by simp; omega)
  rwa [← Nat.add_assoc] at this
theorem Emp.app {a b : List Seg} (h1 : Emp a) (h2 : Emp b) : Emp (a ++ b) := fun g hg => (List.mem_append.1 hg).elim (h1 g) (h2 g)
theorem Emp.nil : Emp [] := fun _ h => by cases h

theorem nilC_rel (hx : Ext ρ ρ') (hn : HLen hg ρ) {nid : Nat} {s : Sh} {c : AC} {v : Value} (hz : HZ ρ' nid (nilC hg bs nid s c).2) (h : CRel rom ρ c v) : CRel rom ρ' (nilC hg bs nid s c).1 v := by
  unfold nilC at hz ⊢
  split
  · rename_i j esz
    simp only at hz
    split at hz
    · rename_i k lb hb
      by_cases he : esz = k.size
      · rw [if_pos he] at hz ⊢
        simp only at hz ⊢
        obtain ⟨r, h1, h2⟩ := hz 0 (by simp)
        simp only [CRel] at h
        exact ⟨r, none, 0, by simpa using h1, by rw [h, h2], fun h => absurd rfl h, by omega, by omega⟩
      · rw [if_neg he]; exact CRel.mono (fun _ _ _ h => h) hx h
    · rename_i k lb hb
      by_cases he : esz = 1
      · rw [if_pos he] at hz ⊢
        simp only at hz ⊢
        obtain ⟨r, h1, h2⟩ := hz 0 (by simp)
        simp only [CRel] at h
        exact ⟨r, none, 0, by simpa using h1, by rw [h, h2], fun h => absurd rfl h, by omega, by omega⟩
      · rw [if_neg he]; exact CRel.mono (fun _ _ _ h => h) hx h
    · exact CRel.mono (fun _ _ _ h => h) hx h
  · rename_i j esz
    simp only at hz
    split at hz
    · rename_i k lb hb
      by_cases he : esz = k.size
      · rw [if_pos he] at hz ⊢
        simp only at hz ⊢
        obtain ⟨r, h1, h2⟩ := hz 0 (by simp)
        simp only [CRel] at h
        exact ⟨r, none, 0, by simpa using h1, by rw [h], fun h => absurd rfl h, by omega, by simp, fun n hn => by cases hn⟩
      · rw [if_neg he]; exact CRel.mono (fun _ _ _ h => h) hx h
    · exact CRel.mono (fun _ _ _ h => h) hx h
  · rename_i j e2 id esz
    split
    · rename_i k l hg0
      obtain ⟨r, base, cap, h1, h2, h3, h4, h5⟩ := h
      have hl := hn id _ _ r hg0 h1
      exact ⟨r, base, cap, hx _ _ h1, by rw [h2, hl], fun h => by rw [h3 h]; simp, by omega, by simpa using h5, fun n hn => by cases hn⟩
    · exact CRel.mono (fun _ _ _ h => h) hx h
  · exact CRel.mono (fun _ _ _ h => h) hx h

theorem nilC_emp {nid : Nat} {s : Sh} {c : AC} : Emp (nilC hg bs nid s c).2 := by
  unfold nilC
  split
  · split
    · split
      · intro g hg; simp at hg; exact .inl ⟨_, hg⟩
      · exact Emp.nil
    · split
      · intro g hg; simp at hg; exact .inr ⟨_, hg⟩
      · exact Emp.nil
    · exact Emp.nil
  · split
    · split
      · intro g hg; simp at hg; exact .inl ⟨_, hg⟩
      · exact Emp.nil
    · exact Emp.nil
  · split <;> exact Emp.nil
  · exact Emp.nil

theorem nilG_emp {nid : Nat} {s : SegSh} {g : Seg} : Emp (nilG hg bs nid s g).2 := by
  unfold nilG
  split
  · exact nilC_emp
  · exact Emp.nil

theorem nilG_rel (hx : Ext ρ ρ') (hn : HLen hg ρ) {nid : Nat} {s : SegSh} {g : Seg} {cs : List Value} (hz : HZ ρ' nid (nilG hg bs nid s g).2) (h : SegRel rom ρ g cs) : SegRel rom ρ' (nilG hg bs nid s g).1 cs := by
  unfold nilG at hz ⊢
  split
  · obtain ⟨v, e, h⟩ := h
    exact ⟨v, e, nilC_rel hx hn hz h⟩
  · exact SegRel.mono (fun _ _ _ h => h) hx h

theorem nilG_width {nid : Nat} {s : SegSh} {g : Seg} : (nilG hg bs nid s g).1.width = g.width ∧ ∀ n, glen g n → glen (nilG hg bs nid s g).1 n := by
  unfold nilG
  split
  · exact ⟨rfl, fun _ _ => trivial⟩
  · exact ⟨rfl, fun _ h => h⟩

theorem nilG_ex {nid : Nat} {s : SegSh} {g : Seg} {w : World} {r : RE} (h : XRel w g r) : XRel w (nilG hg bs nid s g).1 r := by
  unfold nilG
  split
  · exact h
  · exact h

theorem nilGs_rel (hx : Ext ρ ρ') (hn : HLen hg ρ) : ∀ {nid : Nat} {ss : List SegSh} {gs : List Seg} {cs : List Value}, HZ ρ' nid (nilGs hg bs nid ss gs).2 → LRel (SegRel rom ρ) gs cs → LRel (SegRel rom ρ') (nilGs hg bs nid ss gs).1 cs
  | nid, s :: ss, g :: gs, cs, hz, ⟨c, d, e, h1, h2⟩ => ⟨c, d, e, nilG_rel hx hn hz.left h1, nilGs_rel hx hn hz.right h2⟩
  | nid, [], gs, cs, hz, h => by
    have : (nilGs hg bs nid [] gs) = (gs, []) := by cases gs <;> rfl
    rw [this]
    exact LRel.mono (fun _ _ h => SegRel.mono (fun _ _ _ h => h) hx h) _ _ h
  | nid, s :: ss, [], cs, hz, h => by
    simp only [nilGs]
    exact LRel.mono (fun _ _ h => SegRel.mono (fun _ _ _ h => h) hx h) _ _ h

theorem nilGs_emp : ∀ {nid : Nat} {ss : List SegSh} {gs : List Seg}, Emp (nilGs hg bs nid ss gs).2
  | nid, s :: ss, g :: gs => Emp.app nilG_emp nilGs_emp
  | nid, [], gs => by cases gs <;> exact Emp.nil
  | nid, s :: ss, [] => Emp.nil

theorem nilA_rel (hx : Ext ρ ρ') (hn : HLen hg ρ) {nid : Nat} {s : AVSh} {g : AV} {v : Value} (hz : HZ ρ' nid (nilA hg bs nid s g).2) (h : AVRel rom ρ g v) : AVRel rom ρ' (nilA hg bs nid s g).1 v := by
  unfold nilA at hz ⊢
  split
  · exact nilC_rel hx hn hz h
  · obtain ⟨cs, e, h⟩ := h
    exact ⟨cs, e, nilGs_rel hx hn hz h⟩
  · exact AVRel.mono (fun _ _ _ h => h) hx h

theorem nilA_emp {nid : Nat} {s : AVSh} {g : AV} : Emp (nilA hg bs nid s g).2 := by
  unfold nilA
  split
  · exact nilC_emp
  · exact nilGs_emp
  · exact Emp.nil

theorem nilAs_rel (hx : Ext ρ ρ') (hn : HLen hg ρ) : ∀ {nid : Nat} {ss : List AVSh} {gs : List AV} {cs : List Value}, HZ ρ' nid (nilAs hg bs nid ss gs).2 → R2 (AVRel rom ρ) gs cs → R2 (AVRel rom ρ') (nilAs hg bs nid ss gs).1 cs
  | nid, s :: ss, g :: gs, c :: cs, hz, h => ⟨nilA_rel hx hn hz.left h.1, nilAs_rel hx hn hz.right h.2⟩
  | nid, [], gs, cs, hz, h => by
    have : (nilAs hg bs nid [] gs) = (gs, []) := by cases gs <;> rfl
    rw [this]
    exact R2.mono (fun _ _ h => AVRel.mono (fun _ _ _ h => h) hx h) _ _ h
  | nid, s :: ss, [], cs, hz, h => by
    simp only [nilAs]
    exact R2.mono (fun _ _ h => AVRel.mono (fun _ _ _ h => h) hx h) _ _ h
  | nid, s :: ss, g :: gs, [], hz, h => h.elim

theorem nilAs_emp : ∀ {nid : Nat} {ss : List AVSh} {gs : List AV}, Emp (nilAs hg bs nid ss gs).2
  | nid, s :: ss, g :: gs => Emp.app nilA_emp nilAs_emp
  | nid, [], gs => by cases gs <;> exact Emp.nil
  | nid, s :: ss, [] => Emp.nil

theorem nilT_rel (hx : Ext ρ ρ') (hn : HLen hg ρ) {nid : Nat} {s : TVSh} {g : TV} {v : Value} (hz : HZ ρ' nid (nilT hg bs nid s g).2) (h : TVRel rom ρ g v) : TVRel rom ρ' (nilT hg bs nid s g).1 v := by
  unfold nilT at hz ⊢
  split
  · exact nilA_rel hx hn hz h
  · obtain ⟨cs, e, h⟩ := h
    exact ⟨cs, e, nilAs_rel hx hn hz h⟩
  · exact TVRel.mono (fun _ _ _ h => h) hx h

theorem nilT_emp {nid : Nat} {s : TVSh} {g : TV} : Emp (nilT hg bs nid s g).2 := by
  unfold nilT
  split
  · exact nilA_emp
  · exact nilAs_emp
  · exact Emp.nil

theorem nilTs_emp : ∀ {nid : Nat} {ts : List (Nat × TVSh)} {T : List TV}, Emp (nilTs hg bs nid ts T).2
  | nid, [], T => Emp.nil
  | nid, (t, s) :: r, T => Emp.app nilT_emp nilTs_emp

theorem nilTs_rel (hx : Ext ρ ρ') (hn : HLen hg ρ') {tmps : Array Value} : ∀ {nid : Nat} {ts : List (Nat × TVSh)} {T : List TV}, HZ ρ' nid (nilTs hg bs nid ts T).2 → (∀ rom' : Rom, True) →
    T.length = tmps.size → (∀ t, TVRel rom ρ' (T.getD t unkT) (tmps.getD t undef) ∨ TVRel rom ρ (T.getD t unkT) (tmps.getD t undef)) → (nilTs hg bs nid ts T).1.length = tmps.size ∧ ∀ t, TVRel rom ρ' ((nilTs hg bs nid ts T).1.getD t unkT) (tmps.getD t undef)
  | nid, [], T, hz, _, hl, h => ⟨hl, fun t => (h t).elim id fun h => TVRel.mono (fun _ _ _ h => h) hx h⟩
  | nid, (t, s) :: r, T, hz, _, hl, h => by
    simp only [nilTs] at hz ⊢
    refine nilTs_rel hx hn hz.right (fun _ => trivial) (by simpa using hl) fun t' => .inl ?_
    have h' : ∀ t, TVRel rom ρ' (T.getD t unkT) (tmps.getD t undef) := fun t => (h t).elim id fun h => TVRel.mono (fun _ _ _ h => h) hx h
    by_cases he : t' = t
    · subst he
      have hid : Ext ρ' ρ' := fun _ _ h => h
      by_cases hlt : t' < T.length
      · have : (T.set t' (nilT hg bs nid s (T.getD t' unkT)).1).getD t' unkT = (nilT hg bs nid s (T.getD t' unkT)).1 := by simp [List.getD, hlt]
        rw [this]
        exact nilT_rel hid hn hz.left (h' t')
      · have : (T.set t' (nilT hg bs nid s (T.getD t' unkT)).1).getD t' unkT = T.getD t' unkT := by simp [List.getD, hlt]
        rw [this]
        exact h' t'
    · have : (T.set t (nilT hg bs nid s (T.getD t unkT)).1).getD t' unkT = T.getD t' unkT := by
        simp only [List.getD, List.getElem?_set]
        rw [if_neg (fun e => he e.symm)]
      rw [this]
      exact h' t'

def NilRel (rom : Rom) (ρ ρ' : RM) : Option Seg → Option Seg → Prop
  | none, none => True
  | some g, some g' => (∀ cs, SegRel rom ρ g cs → SegRel rom ρ' g' cs) ∧ (∀ n, glen g n → glen g' n) ∧ g'.width = g.width ∧ ∀ w r, XRel w g r → XRel w g' r
  | _, _ => False

theorem NilRel.same (hx : Ext ρ ρ') (x : Option Seg) : NilRel rom ρ ρ' x x := by
  cases x with
  | none => trivial
  | some g => exact ⟨fun cs h => SegRel.mono (fun _ _ _ h => h) hx h, fun _ h => h, rfl, fun _ _ h => h⟩

theorem nilH_emp : ∀ {nid : Nat} {B : List (BSh × Bool)} {H : Hp}, Emp (nilH hg bs nid B H).2
  | nid, (.sh s, _) :: r, (some g, l) :: H => Emp.app nilG_emp nilH_emp
  | nid, (.sh s, _) :: r, (none, l) :: H => by simp only [nilH]; exact nilH_emp
  | nid, (.keep, _) :: r, h :: H => by simp only [nilH]; exact nilH_emp
  | nid, (.dead, _) :: r, h :: H => by simp only [nilH]; exact nilH_emp
  | nid, [], H => by cases H <;> exact Emp.nil
  | nid, (.sh s, _) :: r, [] => Emp.nil
  | nid, (.keep, _) :: r, [] => Emp.nil
  | nid, (.dead, _) :: r, [] => Emp.nil

theorem nilH_nil {nid : Nat} {B : List (BSh × Bool)} : nilH hg bs nid B [] = ([], []) := by
  match B with
  | [] => rfl
  | (.sh _, _) :: _ => rfl
  | (.keep, _) :: _ => rfl
  | (.dead, _) :: _ => rfl

theorem nilH_get (hx : Ext ρ ρ') (hn : HLen hg ρ) : ∀ {nid : Nat} {B : List (BSh × Bool)} {H : Hp}, HZ ρ' nid (nilH hg bs nid B H).2 → (nilH hg bs nid B H).1.length = H.length ∧
    ∀ (j : Nat) (x : Option Seg) (l : Bool), H[j]? = some (x, l) → ∃ y, (nilH hg bs nid B H).1[j]? = some (y, l) ∧ NilRel rom ρ ρ' x y ∧ ((∀ g lb, B[j]? ≠ some (.sh g, lb)) → y = x)
  | nid, B, [], hz => by rw [nilH_nil]; exact ⟨rfl, fun j x l h => by simp at h⟩
  | nid, [], h :: H, hz => by simp only [nilH]; exact ⟨by simp, fun j x l hj => ⟨x, hj, NilRel.same hx x, fun _ => rfl⟩⟩
  | nid, (.sh s, lb) :: r, (some g, l0) :: H, hz => by
    simp only [nilH] at hz ⊢
    obtain ⟨i1, i2⟩ := nilH_get hx hn hz.right
    refine ⟨by simp [i1], fun j x l hj => ?_⟩
    cases j with
    | zero =>
      simp at hj
      obtain ⟨e1, e2⟩ := hj
      subst e1; subst e2
      exact ⟨some (nilG hg bs nid s g).1, by simp, ⟨fun cs h => nilG_rel hx hn hz.left h, nilG_width.2, nilG_width.1, fun _ _ => nilG_ex⟩, fun h => absurd (by simp) (h s lb)⟩
    | succ j =>
      obtain ⟨y, h1, h2, h3⟩ := i2 j x l (by simpa using hj)
      exact ⟨y, by simpa using h1, h2, fun h => h3 fun g lb' => by simpa using h g lb'⟩
  | nid, (.sh s, lb) :: r, (none, l0) :: H, hz => by
    simp only [nilH] at hz ⊢
    obtain ⟨i1, i2⟩ := nilH_get hx hn hz
    refine ⟨by simp [i1], fun j x l hj => ?_⟩
    cases j with
    | zero => exact ⟨x, by simpa using hj, NilRel.same hx x, fun _ => rfl⟩
    | succ j =>
      obtain ⟨y, h1, h2, h3⟩ := i2 j x l (by simpa using hj)
      exact ⟨y, by simpa using h1, h2, fun h => h3 fun g lb' => by simpa using h g lb'⟩
  | nid, (.keep, lb) :: r, h0 :: H, hz => by
    simp only [nilH] at hz ⊢
    obtain ⟨i1, i2⟩ := nilH_get hx hn hz
    refine ⟨by simp [i1], fun j x l hj => ?_⟩
    cases j with
    | zero => exact ⟨x, by simpa using hj, NilRel.same hx x, fun _ => rfl⟩
    | succ j =>
      obtain ⟨y, h1, h2, h3⟩ := i2 j x l (by simpa using hj)
      exact ⟨y, by simpa using h1, h2, fun h => h3 fun g lb' => by simpa using h g lb'⟩
  | nid, (.dead, lb) :: r, h0 :: H, hz => by
    simp only [nilH] at hz ⊢
    obtain ⟨i1, i2⟩ := nilH_get hx hn hz
    refine ⟨by simp [i1], fun j x l hj => ?_⟩
    cases j with
    | zero => exact ⟨x, by simpa using hj, NilRel.same hx x, fun _ => rfl⟩
    | succ j =>
      obtain ⟨y, h1, h2, h3⟩ := i2 j x l (by simpa using hj)
      exact ⟨y, by simpa using h1, h2, fun h => h3 fun g lb' => by simpa using h g lb'⟩

theorem mem_shIds : ∀ {B : List (BSh × Bool)} {i j : Nat} {g : SegSh} {lb : Bool}, B[j]? = some (.sh g, lb) → i + j ∈ shIds i B
  | [], i, j, g, lb, h => by simp at h
  | (.sh s, l) :: r, i, 0, g, lb, h => by simp [shIds]
  | (.sh s, l) :: r, i, j + 1, g, lb, h => by
    have := mem_shIds (i := i + 1) (j := j) (B := r) (by simpa using h)
    simp only [shIds, List.mem_cons]
    right
    rwa [show i + (j + 1) = i + 1 + j by omega]
  | (.keep, l) :: r, i, 0, g, lb, h => by simp at h
  | (.dead, l) :: r, i, 0, g, lb, h => by simp at h
  | (.keep, l) :: r, i, j + 1, g, lb, h => by
    have := mem_shIds (i := i + 1) (j := j) (B := r) (by simpa using h)
    simp only [shIds]
    rwa [show i + (j + 1) = i + 1 + j by omega]
  | (.dead, l) :: r, i, j + 1, g, lb, h => by
    have := mem_shIds (i := i + 1) (j := j) (B := r) (by simpa using h)
    simp only [shIds]
    rwa [show i + (j + 1) = i + 1 + j by omega]

end

theorem nilCf_ok {nt : Nat} {rom : Rom} {ρ : RM} {c : Cf} {a : Act} {w : World} (hs : Sta nt rom ρ c a w) (s : Shp) :
    ∃ ρ', Post nt [] rom ρ c a w rom ρ' (nilCf s c) a w ∧ (∀ j, j < c.H.length → ρ' j = ρ j) ∧ (∀ j g, j < c.H.length → hget (nilCf s c).H j = some g → (∃ g0, hget c.H j = some g0) ∧ ((∀ x lb, s.bs[j]? ≠ some (.sh x, lb)) → hget c.H j = some g)) := by
  let n1 := (nilTs (hget c.H) s.bs c.H.length s.ts c.T).2
  let hh := nilH (hget c.H) s.bs (c.H.length + n1.length) s.bs c.H
  let N := n1 ++ hh.2
  let ρ' : RM := fun id => if c.H.length ≤ id ∧ id < c.H.length + N.length then some (.mkP w.heap.size 0 0 0) else ρ id
  have hN : Emp N := Emp.app nilTs_emp nilH_emp
  have hx : Ext ρ ρ' := fun id r h => by
    have : ¬ (c.H.length ≤ id ∧ id < c.H.length + N.length) := fun hh => by rw [hs.dom id hh.1] at h; cases h
    simp only [ρ', this, if_false]; exact h
  have hz : HZ ρ' c.H.length N := fun i hi => ⟨(.mkP w.heap.size 0 0 0), by simp only [ρ']; rw [if_pos ⟨by omega, by omega⟩], rfl⟩
  have hnew : ∀ id, c.H.length ≤ id → id < c.H.length + N.length → ρ' id = some (.mkP w.heap.size 0 0 0) := fun id h1 h2 => by simp only [ρ']; rw [if_pos ⟨h1, h2⟩]
  have hold : ∀ id, id < c.H.length → ρ' id = ρ id := fun id h => by simp only [ρ']; rw [if_neg (by omega)]
  have hlen0 : HLen (hget c.H) ρ := fun id k l r h1 h2 => by
    obtain ⟨r', h3, h4⟩ := hs.rel.blk id _ h1
    rw [h2] at h3
    cases h3
    exact h4.len
  have hlen1 : HLen (hget c.H) ρ' := fun id k l r h1 h2 => by
    obtain ⟨r', h3, h4⟩ := hs.rel.blk id _ h1
    rw [hx _ _ h3] at h2
    cases h2
    exact h4.len
  obtain ⟨hhl, hhg⟩ := nilH_get (rom := rom) hx hlen0 (B := s.bs) (H := c.H) (hz.right)
  obtain ⟨tl, tg⟩ := nilTs_rel (rom := rom) hx hlen1 (tmps := a.tmps) (ts := s.ts) (T := c.T) (hz.left) (fun _ => trivial) (by rw [hs.len, hs.nt]) (fun t => .inr (hs.t.get t))
  have hH : (nilCf s c).H = hh.1 ++ N.map (fun g => (some g, false)) := rfl
  have hlen : (nilCf s c).H.length = c.H.length + N.length := by rw [hH]; simp [hhl, hh]
  have getO : ∀ j, j < c.H.length → ∃ x y l, c.H[j]? = some (x, l) ∧ (nilCf s c).H[j]? = some (y, l) ∧ NilRel rom ρ ρ' x y ∧ ((∀ g lb, s.bs[j]? ≠ some (.sh g, lb)) → y = x) := fun j hj => by
    obtain ⟨⟨x, l⟩, hxl⟩ : ∃ p, c.H[j]? = some p := ⟨_, List.getElem?_eq_getElem hj⟩
    obtain ⟨y, h1, h2, h3⟩ := hhg j x l hxl
    refine ⟨x, y, l, hxl, ?_, h2, h3⟩
    rw [hH, List.getElem?_append_left (by rw [show hh.1.length = c.H.length from hhl]; exact hj)]
    exact h1
  have getN : ∀ j, c.H.length ≤ j → j < c.H.length + N.length → ∃ g, (nilCf s c).H[j]? = some (some g, false) ∧ ((∃ k, g = .arr k none []) ∨ ∃ k, g = .deep k []) := fun j h1 h2 => by
    rw [hH, List.getElem?_append_right (by rw [show hh.1.length = c.H.length from hhl]; exact h1), show hh.1.length = c.H.length from hhl]
    obtain ⟨g, hg⟩ : ∃ g, N[j - c.H.length]? = some g := ⟨_, List.getElem?_eq_getElem (by omega)⟩
    exact ⟨g, by simp [hg], hN g (List.mem_of_getElem? hg)⟩
  have getA : ∀ j g, hget (nilCf s c).H j = some g → (j < c.H.length ∧ ∃ g0, hget c.H j = some g0 ∧ (∀ cs, SegRel rom ρ g0 cs → SegRel rom ρ' g cs) ∧ (∀ n, glen g0 n → glen g n) ∧ (g.width = g0.width ∧ ∀ w r, XRel w g0 r → XRel w g r) ∧ ((∀ x lb, s.bs[j]? ≠ some (.sh x, lb)) → g = g0)) ∨
      (c.H.length ≤ j ∧ j < c.H.length + N.length ∧ ((∃ k, g = .arr k none []) ∨ ∃ k, g = .deep k [])) := fun j g hg => by
    rcases Nat.lt_or_ge j c.H.length with hj | hj
    · obtain ⟨x, y, l, h1, h2, h3, h4⟩ := getO j hj
      simp only [hget_def, h2] at hg
      subst hg
      cases x with
      | none => exact h3.elim
      | some g0 =>
        refine .inl ⟨hj, g0, by simp [hget_def, h1], h3.1, h3.2.1, h3.2.2, fun h => by simpa using h4 h⟩
    · rcases Nat.lt_or_ge j (c.H.length + N.length) with hj2 | hj2
      · obtain ⟨g', h, h'⟩ := getN j hj hj2
        simp only [hget_def, h] at hg
        cases hg
        exact .inr ⟨hj, hj2, h'⟩
      · rw [hget_none (by omega)] at hg; cases hg
  have lkO : ∀ j, j < c.H.length → hlink (nilCf s c).H j = hlink c.H j := fun j hj => by
    obtain ⟨x, y, l, h1, h2, _, _⟩ := getO j hj
    simp [hlink_def, h1, h2]
  have own : ∀ b o, Own (hget (nilCf s c).H) ρ' b o → Own (hget c.H) ρ b o := by
    rintro b o ⟨id, g, r, h1, h2, h3⟩
    rcases getA id g h1 with ⟨hj, g0, h4, _⟩ | ⟨h4, h5, _⟩
    · rw [hold id hj] at h2
      exact ⟨id, g0, r, h4, h2, h3⟩
    · rw [hnew id h4 h5] at h2
      cases h2
      obtain ⟨_, h6, h7⟩ := RE.mkP_has h3
      simp at h7
  refine ⟨ρ', ⟨⟨TRel.of_get tl tg, ⟨?_, ?_, ?_, hs.rel.base⟩, ?_, ?_, hs.df, hs.nt⟩, ?_, ?_, fun _ _ => rfl⟩, hold, ?_⟩
  · intro id g hg
    rcases getA id g hg with ⟨hj, g0, h1, h2, h3, ⟨_, h4⟩, _⟩ | ⟨h1, h2, ⟨k, e⟩ | ⟨k, e⟩⟩
    · obtain ⟨r, hr, ⟨cs, q1, q2, q3⟩, q4, q5, q6⟩ := hs.rel.blk id g0 h1
      exact ⟨r, by rw [hold id hj]; exact hr, ⟨cs, h2 cs q1, q2, q3⟩, h3 _ q4, q5, h4 w r q6⟩
    · subst e
      exact ⟨_, hnew id h1 h2, ⟨[], ⟨(fun m hm => by cases hm), rfl⟩, Nat.zero_le _, fun j v hj => by simp at hj⟩, rfl, fun j hj => by simp at hj, XRel.mk rfl⟩
    · subst e
      exact ⟨_, hnew id h1 h2, ⟨[], rfl, Nat.zero_le _, fun j v hj => by simp at hj⟩, rfl, fun j hj => by simp at hj, DRel.nil _ _ _ _ _⟩
  · intro id id' g g' r r' h1 h2 hne h3 h4 b o h5 h6
    rcases getA id g h1 with ⟨hj, g0, k1, _⟩ | ⟨k1, k2, _⟩
    · rcases getA id' g' h2 with ⟨hj', g0', k1', _⟩ | ⟨k1', k2', _⟩
      · rw [hold id hj] at h3
        rw [hold id' hj'] at h4
        exact hs.rel.dis id id' g0 g0' r r' k1 k1' hne h3 h4 b o h5 h6
      · rw [hnew id' k1' k2'] at h4
        cases h4
        obtain ⟨_, h7, h8⟩ := RE.mkP_has h6
        simp at h8
    · rw [hnew id k1 k2] at h3
      cases h3
      obtain ⟨_, h7, h8⟩ := RE.mkP_has h5
      simp at h8
  · intro b o v hv
    obtain ⟨h1, h2⟩ := hs.rel.rm b o v hv
    refine ⟨h1, fun id g r hg hr hh => ?_⟩
    obtain ⟨id', g', r', q1, q2, q3⟩ := own b o ⟨id, g, r, hg, hr, hh⟩
    exact h2 id' g' r' q1 q2 q3
  · intro id r g wd h1 h2 h3 h4
    rcases getA id g h3 with ⟨hj, g0, k1, _, _, ⟨k4, _⟩, _⟩ | ⟨k1, k2, ⟨k, e⟩ | ⟨k, e⟩⟩
    · rw [lkO id hj] at h1
      rw [hold id hj] at h2
      rw [k4] at h4
      obtain ⟨p1, r', p2, p3⟩ := hs.lnk id r g0 wd h1 h2 k1 h4
      exact ⟨p1, r', hx _ _ p2, p3⟩
    · subst e
      simp [Seg.width] at h4
    · subst e
      simp [Seg.width] at h4
  · intro id h
    rw [hlen] at h
    simp only [ρ']
    rw [if_neg (by omega)]
    exact hs.dom id (by omega)
  · exact TrW.tr ((Tr.refl rom ρ (hget c.H) w).w.own (fun _ _ h => h) fun b o h _ => .inl (own b o h)) hx
  · refine ⟨by rw [hlen]; omega, lkO, fun id hid hW => ?_, fun id h => List.mem_append.2 (.inr h)⟩
    obtain ⟨x, y, l, h1, h2, _, h4⟩ := getO id hid
    have : y = x := h4 fun g lb hb => by
      have := mem_shIds (i := 0) hb
      rw [Nat.zero_add] at this
      exact hW (List.mem_append.2 (.inl this))
    subst this
    simp [hget_def, h1, h2]
  · intro j g hj hg
    rcases getA j g hg with ⟨_, g0, k1, _, _, _, k5⟩ | ⟨k1, _, _⟩
    · exact ⟨⟨g0, k1⟩, fun h => by rw [k5 h]; exact k1⟩
    · omega

theorem nilH_keep {hg : Nat → Option Seg} {bs : List (BSh × Bool)} : ∀ {nid : Nat} {B : List (BSh × Bool)} {H : Hp} {j : Nat} {x : Option Seg × Bool} {lb : Bool}, H[j]? = some x → B[j]? = some (.keep, lb) → (nilH hg bs nid B H).1[j]? = some x
  | nid, B, [], j, x, lb, h, hb => by simp at h
  | nid, [], h0 :: H, j, x, lb, h, hb => by simp at hb
  | nid, (.sh s, l) :: r, (some g, l0) :: H, 0, x, lb, h, hb => by simp at hb
  | nid, (.sh s, l) :: r, (none, l0) :: H, 0, x, lb, h, hb => by simp at hb
  | nid, (.sh s, l) :: r, (some g, l0) :: H, j + 1, x, lb, h, hb => by
    simp only [nilH]
    simpa using nilH_keep (B := r) (H := H) (by simpa using h) (by simpa using hb)
  | nid, (.sh s, l) :: r, (none, l0) :: H, j + 1, x, lb, h, hb => by
    simp only [nilH]
    simpa using nilH_keep (B := r) (H := H) (by simpa using h) (by simpa using hb)
  | nid, (.keep, l) :: r, h0 :: H, 0, x, lb, h, hb => by simp only [nilH]; simpa using h
  | nid, (.dead, l) :: r, h0 :: H, 0, x, lb, h, hb => by simp at hb
  | nid, (.keep, l) :: r, h0 :: H, j + 1, x, lb, h, hb => by
    simp only [nilH]
    simpa using nilH_keep (B := r) (H := H) (by simpa using h) (by simpa using hb)
  | nid, (.dead, l) :: r, h0 :: H, j + 1, x, lb, h, hb => by
    simp only [nilH]
    simpa using nilH_keep (B := r) (H := H) (by simpa using h) (by simpa using hb)

theorem nilH_length {hg : Nat → Option Seg} {bs : List (BSh × Bool)} : ∀ {nid : Nat} {B : List (BSh × Bool)} {H : Hp}, (nilH hg bs nid B H).1.length = H.length
  | nid, B, [] => by rw [nilH_nil]
  | nid, [], h0 :: H => rfl
  | nid, (.sh s, l) :: r, (some g, l0) :: H => by simp only [nilH]; simpa using nilH_length
  | nid, (.sh s, l) :: r, (none, l0) :: H => by simp only [nilH]; simpa using nilH_length
  | nid, (.keep, l) :: r, h0 :: H => by simp only [nilH]; simpa using nilH_length
  | nid, (.dead, l) :: r, h0 :: H => by simp only [nilH]; simpa using nilH_length

theorem nilCf_keep {s : Shp} {c : Cf} {j : Nat} {g : Seg} {lb : Bool} (h : hget c.H j = some g) (hj : j < c.H.length) (hb : s.bs[j]? = some (.keep, lb)) : hget (nilCf s c).H j = some g := by
  obtain ⟨⟨x, l⟩, hx⟩ : ∃ p, c.H[j]? = some p := ⟨_, List.getElem?_eq_getElem hj⟩
  have hxg : x = some g := by simpa [hget_def, hx] using h
  have := nilH_keep (hg := hget c.H) (bs := s.bs) (nid := c.H.length + (nilTs (hget c.H) s.bs c.H.length s.ts c.T).2.length) hx hb
  simp only [hget_def, nilCf]
  rw [List.getElem?_append_left (by rw [nilH_length]; exact hj), this]
  exact hxg

end Go.Rf

set_option linter.unusedVariables false
set_option linter.unusedSimpArgs false
set_option linter.unusedSectionVars false
namespace Go.Rf
open Go

/-! Memory lent -/

open Classical in
noncomputable def romL (rom : Rom) (ρ : RM) (hg : Nat → Option Seg) (w : World) (ids : List Nat) : Rom := fun b o =>
  match rom b o with
  | some v => some v
  | none => if ∃ id, id ∈ ids ∧ ∃ g r, hg id = some g ∧ ρ id = some r ∧ r.has b o then w.cell? ⟨b, o, none⟩ else none

section
variable {rom rom' : Rom} {ρ ρ' : RM} {hg : Nat → Option Seg} {lk : Nat → Bool} {w w' : World} {ids : List Nat}

theorem romL_ext {b o : Nat} {v : Value} (h : rom b o = some v) : romL rom ρ hg w ids b o = some v := by simp [romL, h]

theorem romL_nil : romL rom ρ hg w [] = rom := by
  funext b o
  unfold romL
  cases h : rom b o <;> simp

theorem romL_inv (hR : Rel rom ρ hg w) {b o : Nat} {v : Value} (h : romL rom ρ hg w ids b o = some v) : w.cell? ⟨b, o, none⟩ = some v ∧ (rom b o = some v ∨ ∃ id, id ∈ ids ∧ ∃ g r, hg id = some g ∧ ρ id = some r ∧ r.has b o) := by
  unfold romL at h
  cases hr : rom b o with
  | some u => rw [hr] at h; cases h; exact ⟨(hR.rm b o v hr).1, .inl rfl⟩
  | none =>
    rw [hr] at h
    simp only at h
    split at h <;> try (cases h; done)
    rename_i hx
    exact ⟨h, .inr hx⟩

theorem romL_at (hR : Rel rom ρ hg w) {id : Nat} {g : Seg} {r : RE} (hid : id ∈ ids) (hgd : hg id = some g) (hr : ρ id = some r) {b o : Nat} {v : Value} (hh : r.has b o) (hc : w.cell? ⟨b, o, none⟩ = some v) : romL rom ρ hg w ids b o = some v := by
  unfold romL
  cases hr0 : rom b o with
  | some u =>
    have h1 := (hR.rm b o u hr0).1
    rw [hc] at h1
    exact h1.symm
  | none => simp only; rw [if_pos ⟨id, hid, g, r, hgd, hr, hh⟩]; exact hc

/-- A row's content, out of memory that nobody writes. -/
theorem row_ro {k : IntKind} {l : List (List Int)} {r : RE} {x : List Int} {i cap : Nat} {base : Option Addr} {v : Value} (hat : ∀ b o v, r.own b o → w.cell? ⟨b, o, none⟩ = some v → rom' b o = some v) (hx : DRel w k l r)
    (h1 : r.hs[i]? = some v) (h2 : l[i]? = some x) (h3 : v = .slice base x.length cap) (h4 : x.length ≤ cap) (h5 : cap ≠ 0 → ∃ b o, base = some ⟨b, o, none⟩) : EK.Rel rom' (.sl (.int k)) x [v] := by
  subst h3
  refine ⟨base, cap, rfl, h4, ?_⟩
  by_cases h0 : x = []
  · exact .inl h0
  · have : 0 < x.length := List.length_pos_iff.2 h0
    obtain ⟨b, o, hb⟩ := h5 (by omega)
    subst hb
    refine .inr ⟨b, o, x.map (Value.int k), rfl, fun j u hj => ?_, ints_cells x⟩
    rw [List.getElem?_map] at hj
    cases hn : x[j]? with
    | none => rw [hn] at hj; cases hj
    | some n =>
      rw [hn] at hj
      cases hj
      obtain ⟨q1, q2⟩ := hx.row i x h2 b o _ cap h1 j n hn
      exact hat _ _ _ q2 q1

theorem LRel.singles {α : Type} {R : α → List Value → Prop} : ∀ {xs : List α} {cs : List Value}, cs.length = xs.length → (∀ (i : Nat) (x : α), xs[i]? = some x → ∃ v, cs[i]? = some v ∧ R x [v]) → LRel R xs cs
  | [], cs, h, _ => List.length_eq_zero_iff.1 (by simpa using h)
  | x :: xs, [], h, _ => by simp at h
  | x :: xs, c :: cs, h, hx => by
    obtain ⟨v, h1, h2⟩ := hx 0 x (by simp)
    simp at h1
    subst h1
    exact ⟨[c], cs, rfl, h2, LRel.singles (by simpa using h) fun i y hy => by simpa using hx (i + 1) y (by simpa using hy)⟩

theorem lendC_ok (hR : Rel rom ρ hg w) {k : EK} {c c' : AC} {chk : Bool} {is : List Nat} {v : Value} (h : lendC hg k c = some (c', chk, is)) (hc : chk = true) (hv : CRel rom ρ c v) (hsub : ∀ i, i ∈ is → i ∈ ids) :
    CRel (romL rom ρ hg w ids) ρ c' v := by
  unfold lendC at h
  split at h <;> try (cases h; done)
  rename_i c hns
  split at h
  rotate_left
  · -- rows
    split at h <;> try (cases h; done)
    rename_i l chk' is' hcont
    cases h
    unfold contentD at hcont
    split at hcont <;> try (cases hcont; done)
    rename_i id0 esz0 _
    split at hcont <;> try (cases hcont; done)
    rename_i k' l0 hgd
    split at hcont <;> try (cases hcont; done)
    rename_i e
    subst e
    split at hcont <;> try (cases hcont; done)
    rename_i e2
    subst e2
    cases hcont
    obtain ⟨r, base, cap, e1, e2, e3, e4, e5, hx, _⟩ := rows_of hR hgd hv
    have hat : ∀ b o v, r.has b o → w.cell? ⟨b, o, none⟩ = some v → romL rom ρ hg w ids b o = some v := fun b o v ho hc => romL_at hR (hsub id0 (by simp)) hgd e1 ho hc
    refine ⟨base, cap, by rw [e2], e4, ?_⟩
    by_cases h0 : l0 = []
    · exact .inl h0
    · have : 0 < l0.length := List.length_pos_iff.2 h0
      refine .inr ⟨r.b, r.o, r.hs, e3 (by omega), fun j u hj => ?_, ?_⟩
      · have hlt := (List.getElem?_eq_some_iff.1 hj).1
        have := hx.len
        exact hat _ _ _ (.inl ⟨rfl, by omega, by have := hx.ext; omega⟩) (hx.main j u hj)
      · refine LRel.singles hx.len fun i x hi => ?_
        obtain ⟨base', cap', q1, q2, q3⟩ := hx.head i x hi
        exact ⟨_, q1, row_ro (fun b o v ho hc => hat b o v (.inr ho) hc) hx q1 hi rfl q2 q3⟩
  rename_i l chk' is' hcont
  cases h
  subst hc
  unfold content at hcont
  have mono : ∀ {k : EK} {x : k.T} {cs : List Value}, EK.Rel rom k x cs → EK.Rel (romL rom ρ hg w ids) k x cs := fun h => EK.Rel.mono (fun _ _ _ h => romL_ext h) h
  split at hcont
  · cases hcont
    simp only [CRel] at hv
    subst hv
    exact ⟨none, 0, rfl, by simp, .inl rfl⟩
  · rename_i k' l'
    split at hcont <;> try (cases hcont; done)
    rename_i e
    subst e
    cases hcont
    exact mono (k := .sl _) hv
  · rename_i id esz
    split at hcont <;> try (cases hcont; done)
    rename_i k' l' hgd
    split at hcont <;> try (cases hcont; done)
    rename_i e
    subst e
    split at hcont <;> try (cases hcont; done)
    rename_i e2
    subst e2
    cases hcont
    obtain ⟨r, base, cap, h1, h2, h3, h4, h5⟩ := hv
    obtain ⟨r', hr', ⟨⟨cs, ⟨_, c1⟩, c2, c3⟩, c4, c5⟩⟩ := hR.blk id _ hgd
    rw [h1] at hr'; cases hr'
    simp only [glen] at c4
    refine ⟨base, cap, by rw [h2, c4], by show l'.length ≤ cap; omega, ?_⟩
    by_cases hl : l' = []
    · exact .inl hl
    · have hcap : cap ≠ 0 := fun h0 => by
        have c4' : l'.length = r.n := c4
        have h6 : l'.length = 0 := by omega
        exact hl (List.length_eq_zero_iff.1 h6)
      refine .inr ⟨r.b, r.o, cs, h3 hcap, fun j u hj => ?_, LRel.mono (fun x c hx => mono hx) _ _ c1⟩
      have hlt : j < cs.length := (List.getElem?_eq_some_iff.1 hj).1
      exact romL_at hR (hsub id (by simp)) hgd h1 (.inl ⟨rfl, by omega, by omega⟩) (c3 j u hj)
  · rename_i id esz off len cp
    split at hcont <;> try (cases hcont; done)
    rename_i k' n' l' hgd
    split at hcont <;> try (cases hcont; done)
    rename_i e
    subst e
    split at hcont <;> try (cases hcont; done)
    rename_i e2
    subst e2
    simp only [Option.some.injEq, Prod.mk.injEq, decide_eq_true_eq] at hcont
    obtain ⟨q1, q2, q3⟩ := hcont
    subst q1; subst q3
    obtain ⟨r, base, cap, h1, h2, h3, h4, h5, _⟩ := hv
    obtain ⟨r', hr', ⟨⟨cs, ⟨_, c1⟩, c2, c3⟩, c4, c5⟩⟩ := hR.blk id _ hgd
    rw [h1] at hr'; cases hr'
    have hlen : ((l'.drop off).take len).length = len := by simp; omega
    refine ⟨base, cap, by rw [h2, hlen], by rw [hlen]; exact h4, ?_⟩
    by_cases hl : len = 0
    · left; exact List.length_eq_zero_iff.1 (by rw [hlen]; exact hl)
    · right
      have hsz := fun x c (hx : EK.Rel rom k' x c) => EK.Rel.length hx
      have d1 := (LRel.take_drop hsz c1 off (by omega)).2
      have d2 := (LRel.take_drop hsz d1 len (by simp; omega)).1
      refine ⟨r.b, r.o + off * k'.size, (cs.drop (off * k'.size)).take (len * k'.size), h3 (by omega), fun j u hj => ?_, LRel.mono (fun x c hx => mono hx) _ _ d2⟩
      have hj2 : cs[off * k'.size + j]? = some u := by
        rw [List.getElem?_take] at hj
        split at hj
        · rw [List.getElem?_drop] at hj; exact hj
        · cases hj
      have hlt : off * k'.size + j < cs.length := (List.getElem?_eq_some_iff.1 hj2).1
      have := c3 _ u hj2
      rw [← Nat.add_assoc] at this
      exact romL_at hR (hsub id (by simp)) hgd h1 (.inl ⟨rfl, by omega, by omega⟩) this
  · exact absurd rfl (hns _)
  · rename_i id i
    split at hcont <;> try (cases hcont; done)
    rename_i k' l0 hgd
    split at hcont <;> try (cases hcont; done)
    rename_i e
    subst e
    cases hcont
    obtain ⟨r, base, cap, e1, e2, hlt, hl, e3, e4, e5, hx⟩ := row_head hR hgd hv
    exact row_ro (fun b o v ho hc => romL_at hR (hsub id (by simp)) hgd e1 (.inr ho) hc) hx e2 hl e3 e4 e5
  · cases hcont


/-! Put away for good -/

theorem hgU_none {hg : Nat → Option Seg} : ∀ {ids : List Nat} {i : Nat} {g : Seg}, hgU hg (ids.map fun i => (i, none)) i = some g → hg i = some g ∧ i ∉ ids
  | [], i, g, h => ⟨h, by simp⟩
  | a :: ids, i, g, h => by
    simp only [List.map_cons, hgU] at h
    obtain ⟨h1, h2⟩ := hgU_none h
    by_cases e : i = a
    · subst e; rw [setF_same] at h1; cases h1
    · rw [setF_ne _ _ e] at h1
      exact ⟨h1, by simp [e, h2]⟩

theorem hgU_append (hg : Nat → Option Seg) : ∀ (a b : List (Nat × Option Seg)), hgU hg (a ++ b) = hgU (hgU hg a) b
  | [], _ => rfl
  | (i, s) :: a, b => by simp only [List.cons_append, hgU]; exact hgU_append _ a b

theorem away (hR : Rel rom ρ hg w) (hL : Lnk ρ hg lk) (nid : Nat) : Aft rom ρ hg w (romL rom ρ hg w ids) ρ (hgU hg (ids.map fun i => (i, none))) lk w nid 0 where
  rel := {
    blk := fun id g h => by
      obtain ⟨r, h1, h2⟩ := hR.blk id g (hgU_none h).1
      exact ⟨r, h1, h2.mono (fun _ _ _ h => romL_ext h) (fun _ _ h => h)⟩
    dis := fun id id' g g' r r' h h' => hR.dis id id' g g' r r' (hgU_none h).1 (hgU_none h').1
    rm := fun b o v h => by
      obtain ⟨h1, h2⟩ := romL_inv hR h
      refine ⟨h1, fun id g r hg' hr hh => ?_⟩
      obtain ⟨h3, h4⟩ := hgU_none hg'
      rcases h2 with h2 | ⟨id2, h5, g2, r2, h6, h7, h8⟩
      · exact (hR.rm b o v h2).2 id g r h3 hr hh
      · exact hR.dis id id2 g g2 r r2 h3 h6 (fun e => h4 (e ▸ h5)) hr h7 b o hh h8
    base := fun b o v h => romL_ext (hR.base b o v h) }
  lnk := fun id r g wd h1 h2 h3 h4 => hL id r g wd h1 h2 (hgU_none h3).1 h4
  tr := {
    rl := fun _ _ _ h => romL_ext h
    hl := fun _ _ h => h
    size := Nat.le_refl _
    os := rfl
    tape := rfl
    output := rfl
    u1 := fun _ _ _ => rfl
    u2 := fun _ _ _ _ => ⟨rfl, rfl⟩
    fresh := fun b o ⟨id, g, r, h1, h2, h3⟩ _ => ⟨id, g, r, (hgU_none h1).1, h2, h3⟩
    rfresh := fun b o v h h0 _ => by
      rcases (romL_inv hR h).2 with h2 | ⟨id, _, g, r, h3, h4, h5⟩
      · rw [h0] at h2; cases h2
      · exact ⟨id, g, r, h3, h4, h5⟩ }
  dom := fun _ h _ => h

theorem hgNot_eq : ∀ (ids : List Nat) (hg : Nat → Option Seg), hgNot hg ids = hgU hg (ids.map fun i => (i, none))
  | [], _ => rfl
  | i :: ids, hg => by
    simp only [hgNot, List.map_cons, hgU]
    rw [hgNot_eq ids]
    rfl

theorem does_fz {P : Program} {o : Oper} {a : Act} {nid : Nat} {r : OR} {c : Bool} (hR : Rel rom ρ hg w) (hL : Lnk ρ hg lk)
    (h : c = true → Does P o a w (romL rom ρ hg w ids) ρ (hgU hg (ids.map fun i => (i, none))) lk nid r) : Does P o a w rom ρ hg lk nid (r.fz ids c) := by
  intro x hx hc hf Q
  simp only [OR.fz, Bool.and_eq_true] at hc
  have hA := away (ids := ids) hR hL nid
  refine Oper.wp_mono (fun a' w' hp => ?_) (h hc.1 x hx hc.2 (fun id h1 h2 => ?_) Q)
  · obtain ⟨u, rom', ρ', e, hv, haft⟩ := hp
    have he : hgA hg nid ((r.fz ids c).k x) = hgA (hgU hg (ids.map fun i => (i, none))) nid (r.k x) := by
      simp only [OR.fz, hgA, hgU_append]
    refine ⟨u, rom', ρ', e, hv, ?_⟩
    rw [he]
    exact ⟨haft.rel, haft.lnk, hA.tr.trans haft.tr, haft.dom⟩
  · obtain ⟨h3, h4⟩ := hf id h1 h2
    refine ⟨?_, h4⟩
    cases hg2 : hgU hg (ids.map fun i => (i, none)) id with
    | none => rfl
    | some g => rw [(hgU_none hg2).1] at h3; cases h3

theorem fzC_ok (hR : Rel rom ρ hg w) {c c' : AC} {chk : Bool} {is : List Nat} {v : Value} (h : fzC hg c = some (c', chk, is)) (hc : chk = true) (hv : CRel rom ρ c v) (hsub : ∀ i, i ∈ is → i ∈ ids) :
    CRel (romL rom ρ hg w ids) ρ c' v := by
  unfold fzC at h
  split at h <;> try (cases h; done)
  exact lendC_ok hR h hc hv hsub

theorem fzV_ok (hR : Rel rom ρ hg w) {t t' : TV} {chk : Bool} {is : List Nat} {v : Value} (h : fzV hg t = some (t', chk, is)) (hc : chk = true) (hv : TVRel rom ρ t v) (hsub : ∀ i, i ∈ is → i ∈ ids) :
    TVRel (romL rom ρ hg w ids) ρ t' v := by
  unfold fzV at h
  split at h <;> try (cases h; done)
  split at h <;> try (cases h; done)
  rename_i ha
  cases h
  exact fzC_ok hR ha hc hv hsub

theorem fzW_ok (hR : Rel rom ρ hg w) {t : TV} {v : Value} (hc : (fzW hg t).2.1 = true) (hv : TVRel rom ρ t v) (hsub : ∀ i, i ∈ (fzW hg t).2.2 → i ∈ ids) : TVRel (romL rom ρ hg w ids) ρ (fzW hg t).1 v := by
  unfold fzW at hc hsub ⊢
  split
  · rename_i r hr
    rw [hr] at hc hsub
    obtain ⟨t', chk, is⟩ := r
    exact fzV_ok hR hr hc hv hsub
  · exact TVRel.mono (fun _ _ _ h => romL_ext h) (fun _ _ h => h) hv

theorem fzPs_ok (hR : Rel rom ρ hg w) : ∀ {ps : List (Nat × TV)} {vs : List (Nat × Value)}, (fzPs hg ps).2.1 = true → PsRel rom ρ ps vs → (∀ i, i ∈ (fzPs hg ps).2.2 → i ∈ ids) → PsRel (romL rom ρ hg w ids) ρ (fzPs hg ps).1 vs
  | [], [], _, _, _ => trivial
  | [], _ :: _, _, h, _ => h.elim
  | _ :: _, [], _, h, _ => h.elim
  | (i, t) :: ps, (j, v) :: vs, hc, ⟨h1, h2⟩, hs => by
    simp only [fzPs, Bool.and_eq_true] at hc hs ⊢
    exact ⟨⟨h1.1, fzW_ok hR hc.1 h1.2 fun i hi => hs i (by simp [hi])⟩, fzPs_ok hR hc.2 h2 fun i hi => hs i (by simp [hi])⟩

theorem fzAs_ok (hR : Rel rom ρ hg w) : ∀ {m : Nat} {ts : List TV} {vs : List Value}, (fzAs hg m ts).2.1 = true → R2 (TVRel rom ρ) ts vs → (∀ i, i ∈ (fzAs hg m ts).2.2 → i ∈ ids) → R2 (TVRel (romL rom ρ hg w ids) ρ) (fzAs hg m ts).1 vs
  | _, [], [], _, _, _ => trivial
  | _, [], _ :: _, _, h, _ => h.elim
  | _, _ :: _, [], _, h, _ => h.elim
  | m, t :: ts, v :: vs, hc, ⟨h1, h2⟩, hs => by
    unfold fzAs at hc hs ⊢
    split
    · rename_i hm
      rw [if_pos hm] at hc hs
      simp only [Bool.and_eq_true] at hc hs ⊢
      exact ⟨fzW_ok hR hc.1 h1 fun i hi => hs i (by simp [hi]), fzAs_ok hR hc.2 h2 fun i hi => hs i (by simp [hi])⟩
    · rename_i hm
      rw [if_neg hm] at hc hs
      exact ⟨TVRel.mono (fun _ _ _ h => romL_ext h) (fun _ _ h => h) h1, fzAs_ok hR hc h2 hs⟩

end
end Go.Rf

set_option linter.unusedVariables false
set_option linter.unusedSimpArgs false
set_option linter.unusedSectionVars false
namespace Go.Rf
open Go

/-- A nil slice as an empty one. -/
theorem err_cells {rom : Rom} {ρ : RM} {w : World} {hg : Nat → Option Seg} {id : Nat} {c : AC} (hR : Rel rom ρ hg w) (h : hg id = some (.one c)) : ∃ r v, ρ id = some r ∧ CRel rom ρ c v ∧ w.cell? ⟨r.b, r.o, none⟩ = some v ∧ r.has r.b r.o := by
  obtain ⟨r, hr, ⟨⟨cs, ⟨v, e, hv⟩, q2, q3⟩, _, _⟩⟩ := hR.blk id _ h
  subst e
  have h0 := q3 0 v rfl
  simp only [List.length_cons, List.length_nil] at q2
  exact ⟨r, v, hr, hv, h0, .inl ⟨rfl, Nat.le_refl _, by omega⟩⟩

theorem ifaceA_ok {P : Program} {Γ : Tab} {rom : Rom} {ρ : RM} {w : World} {hg : Nat → Option Seg} {lk : Nat → Bool} {nid : Nat} {a : Act} (hΓ : TabOK P Γ) {o : Oper} (hR : Rel rom ρ hg w) (hL : Lnk ρ hg lk) {t : Nat} {v : TV} {u : Value} {r : OR}
    (h : ifaceA Γ hg lk t v = some r) (hv : TVRel rom ρ v u) (hrun : ∀ z w', (Instr.makeInterface t u).run P w = .ok z w' → (execOp a.eval o).run P w = .ok (.value z) w') : Does P o a w rom ρ hg lk nid r := by
  have mk : ∀ {d : TypeDesc}, P.underlying t = some d → (∀ ms, d ≠ .interface ms) → (Instr.makeInterface t u).run P w = .ok (.iface t u) w := fun {d} hu hn => by
    unfold Instr.makeInterface
    simp only [Sem.run_bind, run_underlying hu, Result.andThen_ok]
    cases d <;> first | rfl | exact absurd rfl (hn _)
  unfold ifaceA at h
  split at h <;> try (cases h; done)
  · rename_i k n hd
    have hok := tdesc_ok hΓ hd
    simp only [DOK] at hok
    split at h <;> try (cases h; done)
    rename_i ht
    cases h
    have hu : u = .int .i64 n := hv
    refine does_val (fun _ => rfl) hR hL fun _ => ⟨_, hrun _ w (mk hok (by intro ms h; cases h)), ?_⟩
    show Value.iface t u = cond false _ (Value.iface errT.1 (.int .i64 n))
    rw [hu, ht]; rfl
  · rename_i fs hd
    have hok := tdesc_ok hΓ hd
    obtain ⟨fields, hok, _⟩ := hok
    split at h <;> try (cases h; done)
    rename_i ht
    cases h
    obtain ⟨cs, e, hcs⟩ := hv
    have hcs : cs = [] := hcs
    subst hcs
    refine does_val (fun _ => rfl) hR hL fun _ => ⟨_, hrun _ w (mk hok (by intro ms h; cases h)), ?_⟩
    show Value.iface t u = cond true (Value.iface errT.2.1 (.agg #[])) _
    rw [e, ht]; rfl
  · rename_i e0 id hd
    have hok := tdesc_ok hΓ hd
    simp only [DOK] at hok
    split at h <;> try (cases h; done)
    rename_i ht
    split at h <;> try (cases h; done)
    rename_i o1 e1 d1 he
    cases h
    unfold errA at he
    split at he <;> try (cases he; done)
    rename_i s1 s2 o2 e2 d2 g1 g2 g3
    have hlk : lk id = true ∧ lk (id + 1) = true := by
      cases h1 : (lk id && lk (id + 1)) with
      | true => simpa using h1
      | false => rw [h1] at he; cases he
    rw [hlk.1, hlk.2] at he
    cases he
    refine does_fz hR hL fun _ => ?_
    have hA := away (ids := [id, id + 1, id + 2]) hR hL nid
    obtain ⟨r1, v1, a1, a2, a3, a4⟩ := err_cells hR g1
    obtain ⟨r2, v2, b1, b2, b3, b4⟩ := err_cells hR g2
    obtain ⟨r3, v3, c1, c2, c3, c4⟩ := err_cells hR g3
    obtain ⟨_, r2', l1, l2, l3⟩ := hL id r1 _ 1 hlk.1 a1 g1 rfl
    rw [b1] at l1; cases l1
    obtain ⟨_, r3', m1, m2, m3⟩ := hL (id + 1) r2 _ 1 hlk.2 b1 g2 rfl
    rw [c1] at m1; cases m1
    obtain ⟨r0, hr0, hu⟩ := hv
    rw [a1] at hr0; cases hr0
    have z1 := romL_at (ids := [id, id + 1, id + 2]) hR (by simp) g1 a1 a4 a3
    have z2 := romL_at (ids := [id, id + 1, id + 2]) hR (by simp) g2 b1 b4 b3
    have z3 := romL_at (ids := [id, id + 1, id + 2]) hR (by simp) g3 c1 c4 c3
    have w1 : v1 = strV s1 := a2
    have w2 : v2 = strV s2 := b2
    subst w1; subst w2
    refine does_val (fun _ => rfl) hA.rel hA.lnk fun _ => ⟨_, hrun _ w (mk hok (by intro ms h; cases h)), ?_⟩
    refine ⟨r1.b, r1.o, s1, s2, v3, ?_, z1, ?_, ?_, ErrRel.mono (fun _ _ _ h => romL_ext h) c2⟩
    · have hu' : u = .pointer (some ⟨r1.b, r1.o + 0 * 0 + 0, none⟩) := hu
      rw [hu', ht]
      simp
    · rw [show r1.b = r2.b from l2.symm, show r1.o + 1 = r2.o by omega]; exact z2
    · rw [show r1.b = r3.b from (m2.trans l2).symm, show r1.o + 2 = r3.o by omega]; exact z3

theorem opZ_ok {P : Program} {Γ : Tab} {C : Nat → List GS} {Z : Nat → Option EK} {T : List TV} {rom : Rom} {ρ : RM} {w : World} {hg : Nat → Option Seg} {lk : Nat → Bool} {nid : Nat} {a : Act} (hΓ : TabOK P Γ) (hC : TabC P C) {o : Oper}
    (hT : TRel rom ρ T a.tmps) (hR : Rel rom ρ hg w) (hL : Lnk ρ hg lk) {r : OR} (h : opZ Γ C Z T hg lk nid o = some r) : Does P o a w rom ρ hg lk nid r := by
  unfold opZ at h
  split at h
  · rename_i t ho hd
    split at h
    · rename_i k hk
      cases h
      refine does_run fun x hx hc hf => ?_
      have hfree := hf nid (Nat.le_refl _) (by simp [OR.eff])
      refine ⟨.slice none 0 0, w, rom, setF ρ nid (some ⟨w.heap.size, 0, 0, 0, fun _ _ => False, []⟩), .inl ?_, ?_, ?_⟩
      · obtain ⟨dst, op, type, pos, after, guard⟩ := o
        simp only at ho
        subst ho
        rfl
      · exact ⟨_, none, 0, setF_same _ _ _, rfl, fun h => absurd rfl h, Nat.le_refl _, Nat.zero_le _⟩
      · have := empty_deep hR hL k hfree
        simpa [OR.eff, hgA, hgU, hgN, lkN] using this
    · rename_i k hk _
      cases h
      refine does_run fun x hx hc hf => ?_
      refine ⟨.slice none 0 0, w, rom, setF ρ nid (some (.mkP w.heap.size 0 0 0)), .inl ?_, ?_, ?_⟩
      · obtain ⟨dst, op, type, pos, after, guard⟩ := o
        simp only at ho
        subst ho
        rfl
      · exact slw_new (rom := rom) (cap := 0) (by simp) (Nat.le_refl _) (by simp)
      · exact empty_aft hR hL k (hf nid (Nat.le_refl _) (by simp [OR.eff]))
    · exact opA_ok hΓ hC hT hR hL h
  · rename_i ty n ps t ho hd
    split at h
    · obtain ⟨dst, op, type, pos, after, guard⟩ := o
      simp only at ho
      subst ho
      have hps := parts_rel hT ps.toList
      exact buildSliceD_ok (pv := ps.map fun (i, x) => (i, a.eval x)) hΓ hR hL h (by simpa using hps) (fun z w' hh => by simp only [execOp]; exact run_next hh)
    · split at h <;> try (cases h; done)
      rename_i r0 h0
      cases h
      obtain ⟨dst, op, type, pos, after, guard⟩ := o
      simp only at ho
      subst ho
      have hps := parts_rel hT ps.toList
      refine does_fz hR hL fun hc => ?_
      have hA := away (ids := (fzPs hg (evalParts T ps.toList)).2.2) hR hL nid
      have hps2 := fzPs_ok (ids := (fzPs hg (evalParts T ps.toList)).2.2) hR hc hps (fun _ h => h)
      exact buildSliceA_ok (pv := ps.map fun (i, x) => (i, a.eval x)) hΓ hA.rel hA.lnk h0 (by simpa using hps2) (fun z w' hh => by simp only [execOp]; exact run_next hh)
    · obtain ⟨dst, op, type, pos, after, guard⟩ := o
      simp only at ho
      subst ho
      have hps := parts_rel hT ps.toList
      exact buildSliceA_ok (pv := ps.map fun (i, x) => (i, a.eval x)) hΓ hR hL h (by simpa using hps) (fun z w' hh => by simp only [execOp]; exact run_next hh)
    · exact opA_ok hΓ hC hT hR hL h
  · rename_i s t ho hd
    split at h
    · split at h
      · rename_i q hq
        cases h
        obtain ⟨dst, op, type, pos, after, guard⟩ := o
        simp only at ho
        subst ho
        obtain ⟨v, c, ids⟩ := q
        refine does_fz hR hL fun hc => ?_
        have hA := away (ids := ids) hR hL nid
        have hv := fzV_ok (ids := ids) hR hq hc (evalA_rel hT (.tmp s)) (fun _ h => h)
        refine does_val (v := v) (fun _ => rfl) hA.rel hA.lnk fun _ => ⟨a.eval (.tmp s), ?_, hv⟩
        rfl
      · exact opA_ok hΓ hC hT hR hL h
    · exact opA_ok hΓ hC hT hR hL h
  · rename_i f args ats t ho hd
    split at h
    · rename_i m k hz
      have hf := evalA_rel hT f
      split at h <;> try (cases h; done)
      rename_i f0 caps hf0
      split at h <;> try (cases h; done)
      rename_i r0 h0
      cases h
      obtain ⟨dst, op, type, pos, after, guard⟩ := o
      simp only at ho
      subst ho
      refine does_fz hR hL fun hc => ?_
      have hA := away (ids := (fzAs hg m (args.toList.map (evalA T))).2.2) hR hL nid
      rw [hgNot_eq] at h0
      rw [hf0] at hf
      obtain ⟨cl, e, hcl⟩ := hf
      have hcaps : R2 (TVRel (romL rom ρ hg w (fzAs hg m (args.toList.map (evalA T))).2.2) ρ) (caps.map fun p => one (.ptr p)) cl := R2.map (S := TVRel _ ρ) (f := fun p => one (.ptr p)) (fun p v hp => hp) hcl
      have hargs2 := fzAs_ok (ids := (fzAs hg m (args.toList.map (evalA T))).2.2) hR hc (evals_rel hT args.toList) (fun _ h => h)
      obtain ⟨⟨fn, hfn, hb, hname⟩, hdo⟩ := hC f0 _ _ r0 _ lk nid h0 _ w _ ρ (R2.append hargs2 hcaps) hA.rel hA.lnk
      intro x hx hchk hfree Q
      have hcall := hdo x hx hchk hfree
      unfold Oper.wp
      have hrun : (execOp a.eval ⟨dst, .call ⟨.value f, args, ats⟩, type, pos, after, guard⟩).run P w = .ok (.enter f0 (args.toList.map a.eval ++ cl).toArray) w := by
        have hargs : args.map a.eval ++ cl.toArray = (args.toList.map a.eval ++ cl).toArray := by
          apply Array.ext'; simp
        obtain ⟨body, hbody⟩ := Option.isSome_iff_exists.1 hb
        simp only [execOp, resolve, e, Deferred.ofValue, Sem.run_bind, Sem.run_pure, Result.andThen_ok, invoke, callFunc, run_program, hfn, hname]
        simp [hbody, ← hargs]
      rw [hrun]
      simp only [Oper.upon]
      refine Calls.mono hcall fun e w' he => ?_
      obtain ⟨u, rom', ρ', h1, h2, h3⟩ := he
      subst h1
      exact ⟨u, rom', ρ', rfl, h2, h3⟩
    · exact opA_ok hΓ hC hT hR hL h
  · rename_i t x ho
    obtain ⟨dst, op, type, pos, after, guard⟩ := o
    simp only at ho
    subst ho
    exact ifaceA_ok hΓ hR hL h (evalA_rel hT x) (fun z w' hh => by simp only [execOp]; exact run_next hh)
  · rename_i t x v ho
    split at h
    · rename_i r0 h0
      cases h
      exact opA_ok hΓ hC hT hR hL h0
    · split at h <;> try (cases h; done)
      rename_i c q hc0 hq
      split at h <;> try (cases h; done)
      rename_i s hs
      split at h <;> try (cases h; done)
      rename_i r0 h0
      cases h
      obtain ⟨dst, op, type, pos, after, guard⟩ := o
      simp only at ho
      subst ho
      obtain ⟨v', ch, ids⟩ := q
      refine does_fz hR hL fun hc => ?_
      have hA := away (ids := ids) hR hL nid
      rw [hgNot_eq] at h0
      have hv := fzV_ok (ids := ids) hR hq hc (evalA_rel hT v) (fun _ h => h)
      have hx2 : CRel (romL rom ρ hg w ids) ρ c (a.eval x) := CRel.mono (fun _ _ _ h => romL_ext h) (fun _ _ h => h) (tvAC_rel hc0 (evalA_rel hT x))
      refine does_run fun y hy hchk hf => ?_
      obtain ⟨w', hrun, haft⟩ := storeA_ok hΓ hA.rel hA.lnk h0 hs hx2 hv nid hchk
      obtain ⟨h1, h2, h3⟩ := haft y
      refine ⟨undef, w', romL rom ρ hg w ids, ρ, .inr ⟨?_, rfl⟩, ?_, ?_⟩
      · simp only [execOp, Sem.run_bind, hrun, Result.andThen_ok]; rfl
      · rw [h1]; exact ⟨[], rfl, trivial⟩
      · rw [h2]; exact h3
  · exact opA_ok hΓ hC hT hR hL h

theorem stepA_inv {Γ : Tab} {C : Nat → List GS} {Z : Nat → Option EK} {draw : Bool} {R : Type} {o : Oper} {c : Cf} {K : List Nat × List Nat → Cf → Option R} {z : R} (h : stepA Γ C Z draw o c K = some z) :
    ∃ r0 r x, opZ Γ C Z c.T (hget c.H) (hlink c.H) c.H.length o = some r0 ∧ lessR Γ C Z draw o c r0 = some r ∧ r.chk = true ∧ r.run = some x ∧
      updsOk c.H.length r0.wr (r.k x).upd = true ∧ K (r0.rd, r0.wr ++ fromN c.H.length (r.k x).new) (applyE o.dst (r.k x) c) = some z := by
  unfold stepA at h
  simp only [forceCf_eq] at h
  split at h <;> try (cases h; done)
  rename_i r0 h0
  split at h <;> try (cases h; done)
  rename_i r h1
  cases hc : r.chk with
  | false => rw [hc] at h; cases h
  | true =>
    rw [hc] at h
    simp only [cond_true] at h
    cases hx : r.run with
    | none => rw [hx] at h; cases h
    | some x =>
      rw [hx] at h
      simp only [Option.bind_some] at h
      rw [r.elk] at h
      cases hu : updsOk c.H.length r0.wr (r.k x).upd with
      | false => rw [hu] at h; cases h
      | true =>
        rw [hu] at h
        exact ⟨r0, r, x, h0, h1, hc, hx, hu, h⟩

theorem undef_rel (rom : Rom) (ρ : RM) : TVRel rom ρ (.tup []) undef := ⟨[], rfl, trivial⟩

theorem T_get {T : List TV} {d : Nat} {v : TV} (h : T.getD d unkT = v) (hv : v ≠ unkT) : T[d]? = some v := by
  cases ht : T[d]? with
  | none => simp [List.getD, ht] at h; exact absurd h.symm hv
  | some x => simp [List.getD, ht] at h; rw [h]

theorem T_set {T : List TV} {d : Nat} {v : TV} (h : T.getD d unkT = v) (hv : v ≠ unkT) : T.set d v = T := by
  have := T_get h hv
  obtain ⟨hd, e⟩ := List.getElem?_eq_some_iff.1 this
  subst e
  simp

section
variable {P : Program} {Γ : Tab} {C : Nat → List GS} {Z : Nat → Option EK} {nt : Nat} {ops : Array Oper} {Q : Exit → Act → World → Prop}

theorem dstOf_eq {j : Nat} : dstOf ops.toList j = (ops[j]?).bind (·.dst) := by
  unfold dstOf
  rw [Array.getElem?_toList]
  cases ops[j]? <;> rfl

theorem yielded_bool {rom : Rom} {ρ : RM} {T : List TV} {a : Act} (hT : TRel rom ρ T a.tmps) {j d : Nat} {b : Bool} (hd : dstOf ops.toList j = some d) (h : T.getD d unkT = one (.bool b)) :
    yielded ops a.tmps j = some b := by
  rw [dstOf_eq] at hd
  obtain ⟨v, hv, hr⟩ := R2.get hT d _ (T_get h (by simp [unkT, one]))
  have hv' : a.tmps[d]? = some v := by simpa using hv
  simp only [TVRel, AVRel, CRel] at hr
  subst hr
  simp [yielded, hd, hv']

theorem yielded_tup {rom : Rom} {ρ : RM} {T : List TV} {a : Act} (hT : TRel rom ρ T a.tmps) {j d : Nat} (hd : dstOf ops.toList j = some d) (h : T.getD d unkT = .tup []) :
    yielded ops a.tmps j = none := by
  rw [dstOf_eq] at hd
  obtain ⟨v, hv, hr⟩ := R2.get hT d _ (T_get h (by simp [unkT]))
  have hv' : a.tmps[d]? = some v := by simpa using hv
  obtain ⟨vs, e, _⟩ := hr
  subst e
  simp [yielded, hd, hv']

theorem skip_step {rom : Rom} {ρ : RM} {c : Cf} {a : Act} {w : World} (h : Sta nt rom ρ c a w) (d : Option Nat) :
    Post nt d.toList rom ρ c a w rom ρ { c with T := putT c.T d (.tup []) } (a.put d undef) w := by
  have := h.step (d := d) (e := ⟨.tup [], [], []⟩) (u := undef) (by simp) (undef_rel _ _) (Aft.same h.rel h.lnk)
  have e : applyE d ⟨.tup [], [], []⟩ c = { c with T := putT c.T d (.tup []) } := by simp [applyE, updAll, addW]
  rwa [e] at this

theorem dst_asg {os : List Oper} {o : Oper} (h : o ∈ os) : ∀ t, t ∈ o.dst.toList → t ∈ os.filterMap (·.dst) := by
  intro t ht
  simp only [Option.mem_toList] at ht
  exact List.mem_filterMap.2 ⟨o, h, ht⟩

/-- In the order of the text. -/
theorem runOps_ok {R : Type} {z : R} (hΓ : TabOK P Γ) (hC : TabC P C) (K : List (Nat × List Nat × List Nat) → Cf → Option R) :
    ∀ (os : List Oper) (i : Nat) (fp : List (Nat × List Nat × List Nat)) (c : Cf) (rom : Rom) (ρ : RM) (a : Act) (w : World), ops.toList.drop i = os →
      runOps Γ C Z false ops.toList K i os fp c = some z → Sta nt rom ρ c a w →
      (∀ fp' c' a' w' rom' ρ', K fp' c' = some z → Post nt (ops.toList.filterMap (·.dst)) rom ρ c a w rom' ρ' c' a' w' → Q .normal a' w') → wpOps P ops Q (List.range' i os.length) a w := by
  intro os
  induction os with
  | nil =>
    intro i fp c rom ρ a w hd h hs hK
    simp only [runOps] at h
    exact hK fp c a w rom ρ h (Post.refl hs)
  | cons o os ih =>
    intro i fp c rom ρ a w hd h hs hK
    have hi : ops[i]? = some o := by
      have : ops.toList[i]? = some o := by
        have := congrArg (fun l => l[0]?) hd
        simpa using this
      simpa using this
    have hd' : ops.toList.drop (i + 1) = os := by
      have := congrArg (List.drop 1) hd
      simpa [Nat.add_comm] using this
    have hmem : o ∈ ops.toList := by
      have := Array.mem_of_getElem? hi
      simpa using this
    simp only [List.length_cons, List.range'_succ, wpOps, hi]
    -- a step
    have hstep : ∀ (c : Cf), Sta nt rom ρ c a w → (∀ fp' c' a' w' rom' ρ', K fp' c' = some z → Post nt (ops.toList.filterMap (·.dst)) rom ρ c a w rom' ρ' c' a' w' → Q .normal a' w') →
        stepA Γ C Z false o c (fun rw c' => runOps Γ C Z false ops.toList K (i + 1) os ((i, rw) :: fp) c') = some z → o.wp P a w (wpOps P ops Q (List.range' (i + 1) os.length)) Q := by
      intro c hs hK h
      obtain ⟨r0, r, x, h0, h1, hc, hx, hu, h2⟩ := stepA_inv h
      simp only [lessR, cond_false, Option.some.injEq] at h1
      subst h1
      have hdo := opZ_ok hΓ hC hs.t hs.rel hs.lnk h0 x hx hc (fun id h1 _ => ⟨hget_none h1, hs.dom id h1⟩) Q
      refine Oper.wp_mono (fun a' w' hp => ?_) hdo
      obtain ⟨u, rom', ρ', e, hv, haft⟩ := hp
      subst e
      have hpost := hs.step (d := o.dst) (fun y hy => (updsOk_spec hu y hy).1) hv haft
      exact ih (i + 1) _ _ rom' ρ' _ w' hd' h2 hpost.st fun fp' c' a' w'' rom2 ρ2 hk hp2 => hK fp' c' a' w'' rom2 ρ2 hk (hpost.trans hp2 (dst_asg hmem) (fun _ h => h))
    have hskip : ∀ (c : Cf), Sta nt rom ρ c a w → (∀ fp' c' a' w' rom' ρ', K fp' c' = some z → Post nt (ops.toList.filterMap (·.dst)) rom ρ c a w rom' ρ' c' a' w' → Q .normal a' w') →
        runOps Γ C Z false ops.toList K (i + 1) os fp { c with T := putT c.T o.dst (.tup []) } = some z → wpOps P ops Q (List.range' (i + 1) os.length) (a.put o.dst undef) w := by
      intro c hs hK h
      have hpost := skip_step hs o.dst
      exact ih (i + 1) _ _ rom ρ _ w hd' h hpost.st fun fp' c' a' w'' rom2 ρ2 hk hp2 => hK fp' c' a' w'' rom2 ρ2 hk (hpost.trans hp2 (dst_asg hmem) (fun _ h => h))
    unfold runOps at h
    simp only [forceCf_eq] at h
    cases hg : o.guard with
    | none =>
      rw [hg] at h
      simp only at h
      rw [if_pos (by simp [Region.wanted, hg])]
      exact .inl (hstep c hs hK h)
    | some jw =>
      obtain ⟨j, want⟩ := jw
      rw [hg] at h
      simp only at h
      split at h <;> try (cases h; done)
      rename_i d hd
      split at h <;> try (cases h; done)
      · rename_i b hb
        have hy := yielded_bool hs.t hd hb
        have hset : c.T.set d (one (.bool b)) = c.T := T_set hb (by simp [unkT, one])
        cases b <;> cases want <;> simp only [cond_true, cond_false, hset] at h
        · rw [if_pos (by simp [Region.wanted, hg, hy])]; exact .inl (hstep c hs hK h)
        · rw [if_neg (by simp [Region.wanted, hg, hy])]; exact hskip c hs hK h
        · rw [if_neg (by simp [Region.wanted, hg, hy])]; exact hskip c hs hK h
        · rw [if_pos (by simp [Region.wanted, hg, hy])]; exact .inl (hstep c hs hK h)
      · rename_i hb
        have hy := yielded_tup hs.t hd hb
        rw [if_neg (by simp [Region.wanted, hg, hy])]
        exact hskip c hs hK h

end
end Go.Rf

set_option linter.unusedVariables false
set_option linter.unusedSimpArgs false
set_option linter.unusedSectionVars false
namespace Go.Rf
open Go

/-! Writers laid over one another -/

def foldS {K V : Type} : (Nat → Bool) → List (K → Option V) → (K → V) → K → V
  | _, [], h => h
  | S, f :: fs, h => foldS (fun i => S (i + 1)) fs (fun k => if S 0 then (f k).getD (h k) else h k)

theorem foldS_agree {K V : Type} : ∀ (fs : List (K → Option V)) (S S' : Nat → Bool) (h h' : K → V) (k : K), h k = h' k →
    (∀ j f v, fs[j]? = some f → f k = some v → S j = S' j) → foldS S fs h k = foldS S' fs h' k
  | [], _, _, _, _, _, e, _ => e
  | f :: fs, S, S', h, h', k, e, hs => by
    simp only [foldS]
    refine foldS_agree fs _ _ _ _ k ?_ (fun j g v hj hg => hs (j + 1) g v (by simpa using hj) hg)
    cases hf : f k with
    | none => simp [e]
    | some v => rw [hs 0 f v (by simp) hf, e]

theorem foldS_none {K V : Type} : ∀ (fs : List (K → Option V)) (S : Nat → Bool) (h : K → V) (k : K), (∀ j f, fs[j]? = some f → S j = true → f k = none) → foldS S fs h k = h k
  | [], _, _, _, _ => rfl
  | f :: fs, S, h, k, hs => by
    simp only [foldS]
    rw [foldS_none fs _ _ k (fun j g hj hS => hs (j + 1) g (by simpa using hj) hS)]
    cases h0 : S 0 with
    | false => simp
    | true => simp [hs 0 f (by simp) h0]

theorem foldS_last {K V : Type} : ∀ (fs : List (K → Option V)) (S : Nat → Bool) (h : K → V) (k : K) (j : Nat) (f : K → Option V) (v : V), fs[j]? = some f → S j = true → f k = some v →
    (∀ j' g, j < j' → fs[j']? = some g → S j' = true → g k = none) → foldS S fs h k = v
  | [], _, _, _, j, f, v, hj, _, _, _ => by simp at hj
  | f0 :: fs, S, h, k, 0, f, v, hj, hS, hf, hn => by
    simp at hj
    subst hj
    simp only [foldS]
    rw [foldS_none fs _ _ k (fun j g hj hS => hn (j + 1) g (by omega) (by simpa using hj) hS)]
    simp [hS, hf]
  | f0 :: fs, S, h, k, j + 1, f, v, hj, hS, hf, hn => by
    simp only [foldS]
    exact foldS_last fs _ _ k j f v (by simpa using hj) hS hf (fun j' g h1 h2 h3 => hn (j' + 1) g (by omega) (by simpa using h2) h3)

/-! What the run in the order of the text did -/

structure Rec where
  o : Oper
  n : Nat
  e : Eff
  fp : Option (List Nat × List Nat)

def Rec.newAt (r : Rec) (id : Nat) : Bool := decide (r.n ≤ id) && decide (id < r.n + r.e.new.length)
def Rec.updAt (r : Rec) (id : Nat) : Bool := r.e.upd.any fun x => x.1 == id

def fT (nt : Nat) (r : Rec) (t : Nat) : Option TV := if r.o.dst = some t ∧ t < nt then some r.e.v else none
def fH (r : Rec) (id : Nat) : Option (Option Seg) := if r.newAt id || r.updAt id then some (hgA (fun _ => none) r.n r.e id) else none
def fL (r : Rec) (id : Nat) : Option Bool := if r.newAt id then some (lkN (fun _ => false) r.n r.e.new id) else none

theorem hgU_upd (hg hg' : Nat → Option Seg) : ∀ (u : List (Nat × Option Seg)) (i : Nat), (u.any fun x => x.1 == i) = true → hgU hg u i = hgU hg' u i
  | [], _, h => by simp at h
  | (j, s) :: u, i, h => by
    simp only [hgU]
    by_cases h' : (u.any fun x => x.1 == i) = true
    · exact hgU_upd _ _ u i h'
    · have hne : ∀ x ∈ u, x.1 ≠ i := fun x hx e => h' (List.any_eq_true.2 ⟨x, hx, by simp [e]⟩)
      rw [hgU_other _ u i hne, hgU_other _ u i hne]
      simp only [List.any_cons, Bool.or_eq_true, beq_iff_eq] at h
      have : j = i := h.resolve_right h'
      subst this
      simp

theorem hgN_out (r : Rec) (hg : Nat → Option Seg) {id : Nat} (hn : r.newAt id = false) : hgN hg r.n r.e.new id = hg id := by
  rw [hgN_at]
  by_cases h1 : r.n ≤ id
  · have h2 : r.e.new.length ≤ id - r.n := by
      unfold Rec.newAt at hn
      simp only [Bool.and_eq_false_iff, decide_eq_false_iff_not] at hn
      omega
    simp [h1, List.getElem?_eq_none h2]
  · simp [h1]

theorem hgA_fH (r : Rec) (hg : Nat → Option Seg) (id : Nat) : hgA hg r.n r.e id = (fH r id).getD (hg id) := by
  unfold fH hgA
  cases hn : r.newAt id with
  | true =>
    simp only [Bool.true_or, if_true, Option.getD_some]
    simp only [Rec.newAt, Bool.and_eq_true, decide_eq_true_eq] at hn
    have : id - r.n < r.e.new.length := by omega
    rw [hgN_at, hgN_at]
    simp [hn.1, this]
  | false =>
    rw [hgN_out r _ hn, hgN_out r _ hn]
    cases hu : r.updAt id with
    | true =>
      simp only [Bool.or_true, if_true, Option.getD_some]
      exact hgU_upd _ _ _ _ hu
    | false =>
      simp only [Bool.or_self, Bool.false_eq_true, if_false, Option.getD_none]
      refine hgU_other _ _ _ fun x hx he => ?_
      have : r.updAt id = true := List.any_eq_true.2 ⟨x, hx, by simp [he]⟩
      rw [hu] at this; cases this

theorem lkN_fL (r : Rec) (lk : Nat → Bool) (id : Nat) : lkN lk r.n r.e.new id = (fL r id).getD (lk id) := by
  unfold fL
  rw [lkN_at]
  by_cases hn : r.newAt id = true
  · simp only [hn, if_true, Option.getD_some]
    rw [lkN_at]
    simp only [Rec.newAt, Bool.and_eq_true, decide_eq_true_eq] at hn
    have : id - r.n < r.e.new.length := by omega
    simp [hn.1, this]
  · rw [if_neg hn]
    by_cases h1 : r.n ≤ id
    · have h2 : r.e.new.length ≤ id - r.n := by
        simp only [Rec.newAt, Bool.and_eq_true, decide_eq_true_eq] at hn
        omega
      simp [h1, List.getElem?_eq_none h2]
    · simp [h1]

theorem mem_fromN : ∀ (L : List (Seg × Bool)) (n id : Nat), id ∈ fromN n L ↔ n ≤ id ∧ id < n + L.length
  | [], n, id => by simp [fromN]
  | x :: L, n, id => by
    simp only [fromN, List.mem_cons, mem_fromN L (n + 1) id, List.length_cons]
    omega

/-- What a record says of the state before it. -/
def RecOk (Γ : Tab) (C : Nat → List GS) (Z : Nat → Option EK) (all : List Oper) (c : Cf) (r : Rec) : Prop :=
  r.n = c.H.length ∧
  ((r.fp = none ∧ r.e = ⟨.tup [], [], []⟩ ∧ ∃ j want d, r.o.guard = some (j, want) ∧ dstOf all j = some d ∧ (c.T.getD d unkT = one (.bool (!want)) ∨ c.T.getD d unkT = .tup [])) ∨
   (∃ rd wr q x, r.fp = some (rd, wr ++ fromN r.n r.e.new) ∧ opZ Γ C Z c.T (hgOnly (rd ++ wr) (hget c.H)) (lkOnly (rd ++ wr) (hlink c.H)) c.H.length r.o = some q ∧ q.chk = true ∧ q.run = some x ∧ r.e = q.k x ∧
      updsOk c.H.length wr r.e.upd = true ∧ (r.o.guard = none ∨ ∃ j want d, r.o.guard = some (j, want) ∧ dstOf all j = some d ∧ c.T.getD d unkT = one (.bool want))))

inductive Trc (Γ : Tab) (C : Nat → List GS) (Z : Nat → Option EK) (all : List Oper) : Cf → List Rec → Cf → Prop
  | nil (c : Cf) : Trc Γ C Z all c [] c
  | cons {c c' : Cf} {r : Rec} {rs : List Rec} : RecOk Γ C Z all c r → Trc Γ C Z all (applyE r.o.dst r.e c) rs c' → Trc Γ C Z all c (r :: rs) c'

def fpsRev : Nat → List Rec → List (Nat × List Nat × List Nat) → List (Nat × List Nat × List Nat)
  | _, [], acc => acc
  | i, r :: rs, acc => fpsRev (i + 1) rs (match r.fp with | some x => (i, x) :: acc | none => acc)

theorem runOps_trc {Γ : Tab} {C : Nat → List GS} {Z : Nat → Option EK} {all : List Oper} {R : Type} {z : R} (K : List (Nat × List Nat × List Nat) → Cf → Option R) :
    ∀ (os : List Oper) (i : Nat) (fp : List (Nat × List Nat × List Nat)) (c : Cf), runOps Γ C Z true all K i os fp c = some z →
      ∃ rs c', Trc Γ C Z all c rs c' ∧ rs.map (·.o) = os ∧ K (fpsRev i rs fp) c' = some z := by
  intro os
  induction os with
  | nil => intro i fp c h; exact ⟨[], c, .nil c, rfl, h⟩
  | cons o os ih =>
    intro i fp c h
    have hstep : ∀ (c : Cf), (o.guard = none ∨ ∃ j want d, o.guard = some (j, want) ∧ dstOf all j = some d ∧ c.T.getD d unkT = one (.bool want)) →
        stepA Γ C Z true o c (fun rw c' => runOps Γ C Z true all K (i + 1) os ((i, rw) :: fp) c') = some z →
        ∃ rs c', Trc Γ C Z all c rs c' ∧ rs.map (·.o) = o :: os ∧ K (fpsRev i rs fp) c' = some z := by
      intro c hg h
      obtain ⟨r0, q, x, h0, h1, hc, hx, hu, h2⟩ := stepA_inv h
      simp only [lessR, cond_true] at h1
      obtain ⟨rs, c', t, e, k⟩ := ih _ _ _ h2
      exact ⟨⟨o, c.H.length, q.k x, some (r0.rd, r0.wr ++ fromN c.H.length (q.k x).new)⟩ :: rs, c', .cons ⟨rfl, .inr ⟨r0.rd, r0.wr, q, x, rfl, h1, hc, hx, rfl, hu, hg⟩⟩ t, by simp [e], k⟩
    have hskip : ∀ (c : Cf) (j : Nat) (want : Bool) (d : Nat), o.guard = some (j, want) → dstOf all j = some d → (c.T.getD d unkT = one (.bool (!want)) ∨ c.T.getD d unkT = .tup []) →
        runOps Γ C Z true all K (i + 1) os fp { c with T := putT c.T o.dst (.tup []) } = some z → ∃ rs c', Trc Γ C Z all c rs c' ∧ rs.map (·.o) = o :: os ∧ K (fpsRev i rs fp) c' = some z := by
      intro c j want d hg hd hb h
      obtain ⟨rs, c', t, e, k⟩ := ih _ _ _ h
      refine ⟨⟨o, c.H.length, ⟨.tup [], [], []⟩, none⟩ :: rs, c', .cons ⟨rfl, .inl ⟨rfl, rfl, j, want, d, hg, hd, hb⟩⟩ ?_, by simp [e], k⟩
      have : applyE o.dst ⟨.tup [], [], []⟩ c = { c with T := putT c.T o.dst (.tup []) } := by simp [applyE, updAll, addW]
      simp only [this]
      exact t
    unfold runOps at h
    simp only [forceCf_eq] at h
    cases hg : o.guard with
    | none =>
      rw [hg] at h
      exact hstep c (.inl hg) h
    | some jw =>
      obtain ⟨j, want⟩ := jw
      rw [hg] at h
      simp only at h
      split at h <;> try (cases h; done)
      rename_i d hd
      split at h <;> try (cases h; done)
      · rename_i b hb
        have hset : c.T.set d (one (.bool b)) = c.T := T_set hb (by simp [unkT, one])
        cases b <;> cases want <;> simp only [cond_true, cond_false, hset] at h
        · exact hstep c (.inr ⟨j, _, d, hg, hd, hb⟩) h
        · exact hskip c j _ d hg hd (.inl hb) h
        · exact hskip c j _ d hg hd (.inl hb) h
        · exact hstep c (.inr ⟨j, _, d, hg, hd, hb⟩) h
      · rename_i hb
        exact hskip c j _ d hg hd (.inr hb) h

theorem applyE_len {d : Option Nat} {e : Eff} {c : Cf} : (applyE d e c).H.length = c.H.length + e.new.length := by simp [applyE, updAll_length]

theorem RecOk.upd {Γ : Tab} {C : Nat → List GS} {Z : Nat → Option EK} {all : List Oper} {c : Cf} {r : Rec} (h : RecOk Γ C Z all c r) : ∀ x ∈ r.e.upd, x.1 < c.H.length := by
  obtain ⟨_, ⟨_, e, _⟩ | ⟨rd, wr, q, x, _, _, _, _, _, hu, _⟩⟩ := h
  · rw [e]; simp
  · exact fun y hy => (updsOk_spec hu y hy).1

theorem applyE_frm {d : Option Nat} {e : Eff} {c : Cf} (hu : ∀ x ∈ e.upd, x.1 < c.H.length) : Frm c (applyE d e c) := by
  refine ⟨by rw [applyE_len]; omega, fun id hid => ?_, fun id hid hw => ?_, fun id hid => mem_addW.2 (List.mem_append.2 (.inr hid))⟩
  · rw [hlink_applyE, lkN_lt _ _ _ _ hid]
  · rw [hget_applyE hu]
    unfold hgA
    rw [hgN_lt _ _ _ _ hid]
    refine hgU_other _ _ _ fun x hx he => hw ?_
    exact mem_addW.2 (List.mem_append.2 (.inl (List.mem_map.2 ⟨x, hx, he⟩)))

/-- The states in between, each as what its forerunners laid. -/
theorem Trc.at {Γ : Tab} {C : Nat → List GS} {Z : Nat → Option EK} {all : List Oper} {nt : Nat} : ∀ {c c' : Cf} {rs : List Rec}, Trc Γ C Z all c rs c' → c.T.length = nt →
    (∀ (i : Nat) (r : Rec), rs[i]? = some r → ∃ ci, RecOk Γ C Z all ci r ∧ c.H.length ≤ r.n ∧ r.n + r.e.new.length ≤ c'.H.length ∧
      (∀ t, ci.T.getD t unkT = foldS (fun j => decide (j < i)) (rs.map (fT nt)) (fun t => c.T.getD t unkT) t) ∧
      (∀ id, hget ci.H id = foldS (fun j => decide (j < i)) (rs.map fH) (hget c.H) id) ∧
      (∀ id, hlink ci.H id = foldS (fun j => decide (j < i)) (rs.map fL) (hlink c.H) id)) ∧
    (∀ (i j : Nat) (r s : Rec), rs[i]? = some r → rs[j]? = some s → i < j → r.n + r.e.new.length ≤ s.n) ∧
    ((∀ t, c'.T.getD t unkT = foldS (fun _ => true) (rs.map (fT nt)) (fun t => c.T.getD t unkT) t) ∧
      (∀ id, hget c'.H id = foldS (fun _ => true) (rs.map fH) (hget c.H) id) ∧
      (∀ id, hlink c'.H id = foldS (fun _ => true) (rs.map fL) (hlink c.H) id)) ∧ Frm c c' ∧ c'.T.length = nt := by
  intro c c' rs h
  induction h with
  | nil c => intro hn; exact ⟨fun i r hi => by simp at hi, fun i j r s hi => by simp at hi, ⟨fun _ => rfl, fun _ => rfl, fun _ => rfl⟩, Frm.refl c, hn⟩
  | @cons c c' r rs hr ht ih =>
    intro hn
    have hu := hr.upd
    have hlen : (applyE r.o.dst r.e c).T.length = nt := by
      cases hd : r.o.dst <;> simp [applyE, putT, hn]
    obtain ⟨i1, i2, i3, i4, i5⟩ := ih hlen
    have hrn : r.n = c.H.length := hr.1
    have hL := applyE_len (d := r.o.dst) (e := r.e) (c := c)
    have eT : (fun t => (applyE r.o.dst r.e c).T.getD t unkT) = fun t => (fT nt r t).getD (c.T.getD t unkT) := by
      funext t
      unfold fT applyE
      cases hd : r.o.dst with
      | none => simp [putT]
      | some d =>
        simp only [putT, Option.some.injEq]
        by_cases e : d = t
        · subst e
          by_cases hlt : d < nt
          · have : d < c.T.length := by rw [hn]; exact hlt
            simp [hlt, this]
          · have : c.T.length ≤ d := by rw [hn]; exact Nat.le_of_not_lt hlt
            simp [hlt, this]
        · simp [e, List.getElem?_set_ne e]
    have eH : hget (applyE r.o.dst r.e c).H = fun id => (fH r id).getD (hget c.H id) := by
      rw [hget_applyE hu, ← hrn]
      funext id
      exact hgA_fH r _ id
    have eL : hlink (applyE r.o.dst r.e c).H = fun id => (fL r id).getD (hlink c.H id) := by
      rw [hlink_applyE, ← hrn]
      funext id
      exact lkN_fL r _ id
    refine ⟨fun i s hi => ?_, fun i j s s' hi hj hij => ?_, ?_, (applyE_frm hu).trans i4, i5⟩
    · cases i with
      | zero =>
        simp at hi
        subst hi
        refine ⟨c, hr, by omega, by have := i4.len; omega, fun t => ?_, fun t => ?_, fun t => ?_⟩
        · exact (foldS_none (S := fun j => decide (j < 0)) _ (fun t => c.T.getD t unkT) t (fun j f _ hS => by simp at hS)).symm
        · exact (foldS_none (S := fun j => decide (j < 0)) _ (hget c.H) t (fun j f _ hS => by simp at hS)).symm
        · exact (foldS_none (S := fun j => decide (j < 0)) _ (hlink c.H) t (fun j f _ hS => by simp at hS)).symm
      | succ i =>
        obtain ⟨ci, a1, a2, a3, a4, a5, a6⟩ := i1 i s (by simpa using hi)
        refine ⟨ci, a1, by omega, a3, fun t => ?_, fun t => ?_, fun t => ?_⟩
        · rw [a4, eT]; simp [foldS]
        · rw [a5, eH]; simp [foldS]
        · rw [a6, eL]; simp [foldS]
    · cases j with
      | zero => omega
      | succ j =>
        cases i with
        | zero =>
          simp at hi
          subst hi
          obtain ⟨ci, a1, a2, _⟩ := i1 j s' (by simpa using hj)
          omega
        | succ i => exact i2 i j s s' (by simpa using hi) (by simpa using hj) (by omega)
    · obtain ⟨b1, b2, b3⟩ := i3
      refine ⟨fun t => ?_, fun t => ?_, fun t => ?_⟩
      · rw [b1, eT]; simp [foldS]
      · rw [b2, eH]; simp [foldS]
      · rw [b3, eL]; simp [foldS]

/-! The order -/

theorem fpOk_suffix (bs : List Nat) : ∀ (rs : List Rec) (i : Nat) (acc : List (Nat × List Nat × List Nat)), fpOk bs (fpsRev i rs acc) = true → fpOk bs acc = true
  | [], _, _, h => h
  | r :: rs, i, acc, h => by
    have := fpOk_suffix bs rs (i + 1) _ h
    cases hf : r.fp with
    | none => rw [hf] at this; exact this
    | some x =>
      rw [hf] at this
      simp only [fpOk, Bool.and_eq_true] at this
      exact this.2

theorem fpOk_spec (bs : List Nat) : ∀ (rs : List Rec) (i : Nat) (acc : List (Nat × List Nat × List Nat)), fpOk bs (fpsRev i rs acc) = true →
    ∀ k s y, rs[k]? = some s → s.fp = some y → (∀ z ∈ acc, fpClash y z.2 = false ∨ Nat.testBit (bs.getD (i + k) 0) z.1 = true) ∧
      ∀ j r x, j < k → rs[j]? = some r → r.fp = some x → fpClash y x = false ∨ Nat.testBit (bs.getD (i + k) 0) (i + j) = true
  | [], _, _, _, k, s, y, hk, _ => by simp at hk
  | r :: rs, i, acc, h, 0, s, y, hk, hy => by
    simp at hk
    subst hk
    have := fpOk_suffix bs rs (i + 1) _ h
    rw [hy] at this
    simp only [fpOk, Bool.and_eq_true, List.all_eq_true, Bool.or_eq_true, Bool.not_eq_true'] at this
    exact ⟨fun z hz => this.1 z hz, fun j r x hj => by omega⟩
  | r :: rs, i, acc, h, k + 1, s, y, hk, hy => by
    obtain ⟨h1, h2⟩ := fpOk_spec bs rs (i + 1) _ h k s y (by simpa using hk) hy
    have e : i + 1 + k = i + (k + 1) := by omega
    rw [e] at h1
    refine ⟨fun z hz => h1 z ?_, fun j r' x hj hr hx => ?_⟩
    · cases r.fp <;> simp [hz]
    · cases j with
      | zero =>
        simp at hr
        subst hr
        rw [hx] at h1
        exact h1 (i, x) (by simp)
      | succ j =>
        have := h2 j r' x (by omega) (by simpa using hr) hx
        have e2 : i + 1 + j = i + (j + 1) := by omega
        rwa [e, e2] at this

theorem testBit_fold (acc : List Nat) : ∀ (es : List Nat) (m : Nat) (i : Nat), Nat.testBit (es.foldl (fun m e => Nat.lor m (Nat.lor (Nat.shiftLeft 1 e) (acc.getD e 0))) m) i = true →
    Nat.testBit m i = true ∨ ∃ e ∈ es, i = e ∨ Nat.testBit (acc.getD e 0) i = true
  | [], m, i, h => .inl h
  | e :: es, m, i, h => by
    rcases testBit_fold acc es _ i h with h | ⟨e', he, h⟩
    · have h' : Nat.testBit (m ||| (1 <<< e ||| acc.getD e 0)) i = true := h
      rw [Nat.testBit_or, Nat.testBit_or, Bool.or_eq_true, Bool.or_eq_true] at h'
      rcases h' with h | h | h
      · exact .inl h
      · refine .inr ⟨e, by simp, .inl ?_⟩
        rw [Nat.testBit_shiftLeft] at h
        simp at h
        have := Nat.testBit_one_eq_true_iff_self_eq_zero.1 h.2
        omega
      · exact .inr ⟨e, by simp, .inr h⟩
    · exact .inr ⟨e', by simp [he], h⟩

theorem getD_ge {l : List Nat} {j : Nat} (h : l.length ≤ j) : l.getD j 0 = 0 := by simp [List.getD, List.getElem?_eq_none h]

theorem befores_get : ∀ (os : List Oper) (acc : List Nat) (j i : Nat), Nat.testBit ((befores os acc).getD j 0) i = true →
    (j < acc.length ∧ Nat.testBit (acc.getD j 0) i = true) ∨ ∃ o acc', acc.length ≤ j ∧ os[j - acc.length]? = some o ∧ ∃ e ∈ edges o, i = e ∨ (Nat.testBit (acc'.getD e 0) i = true ∧ acc' = (befores os acc).take j)
  | [], acc, j, i, h => by
    simp only [befores] at h
    by_cases hj : j < acc.length
    · exact .inl ⟨hj, h⟩
    · rw [getD_ge (by omega)] at h
      simp at h
  | o :: os, acc, j, i, h => by
    simp only [befores] at h
    have hpre : ∀ (os : List Oper) (acc : List Nat), ∃ r, befores os acc = acc ++ r := by
      intro os
      induction os with
      | nil => intro acc; exact ⟨[], by simp [befores]⟩
      | cons o os ih =>
        intro acc
        obtain ⟨r, hr⟩ := ih (acc ++ [(edges o).foldl (fun m e => Nat.lor m (Nat.lor (Nat.shiftLeft 1 e) (acc.getD e 0))) 0])
        exact ⟨(edges o).foldl (fun m e => Nat.lor m (Nat.lor (Nat.shiftLeft 1 e) (acc.getD e 0))) 0 :: r, by simp only [befores]; rw [hr]; simp⟩
    rcases befores_get os _ j i h with ⟨h1, h2⟩ | ⟨o', acc', h1, h2, h3⟩
    · simp only [List.length_append, List.length_cons, List.length_nil] at h1
      by_cases hj : j < acc.length
      · refine .inl ⟨hj, ?_⟩
        simpa [List.getD, List.getElem?_append_left hj] using h2
      · have hj' : j = acc.length := by omega
        subst hj'
        have : (acc ++ [(edges o).foldl (fun m e => Nat.lor m (Nat.lor (Nat.shiftLeft 1 e) (acc.getD e 0))) 0]).getD acc.length 0 = (edges o).foldl (fun m e => Nat.lor m (Nat.lor (Nat.shiftLeft 1 e) (acc.getD e 0))) 0 := by
          simp [List.getD]
        rw [this] at h2
        rcases testBit_fold acc _ _ _ h2 with h2 | ⟨e, he, h2⟩
        · simp at h2
        · refine .inr ⟨o, acc, Nat.le_refl _, by simp, e, he, h2.imp id fun h2 => ⟨h2, ?_⟩⟩
          obtain ⟨r, hr⟩ := hpre (o :: os) acc
          rw [hr]; simp
    · simp only [List.length_append, List.length_cons, List.length_nil] at h1 h2
      refine .inr ⟨o', acc', by omega, ?_, h3⟩
      have : j - acc.length = (j - (acc.length + (0 + 1))) + 1 := by omega
      rw [this]
      simpa using h2

/-- A set of operations that holds with each its forerunners by edges holds all its forerunners. -/
theorem befores_closed {all : List Oper} {S : Nat → Bool} (he : edgesOk 0 all = true) (hS : ∀ j o, all[j]? = some o → S j = true → ∀ e ∈ edges o, S e = true) :
    ∀ (j : Nat) (o : Oper), all[j]? = some o → (∀ e ∈ edges o, S e = true) → ∀ i, Nat.testBit ((befores all []).getD j 0) i = true → S i = true := by
  intro j
  induction j using Nat.strongRecOn with
  | _ j ih =>
    intro o ho hj i hi
    rcases befores_get all [] j i hi with ⟨h, _⟩ | ⟨o', acc', _, h2, e, he', h3⟩
    · simp at h
    · simp only [List.length_nil, Nat.sub_zero] at h2
      rw [ho] at h2
      cases h2
      have hSe := hj e he'
      rcases h3 with h3 | ⟨h3, h4⟩
      · subst h3; exact hSe
      · have hlt : e < j := by
          by_cases h : e < j
          · exact h
          · subst h4
            rw [getD_ge (by simp; omega)] at h3
            simp at h3
        have hlen : e < all.length := by
          have := (List.getElem?_eq_some_iff.1 ho).1
          omega
        have h5 : Nat.testBit ((befores all []).getD e 0) i = true := by
          subst h4
          simpa [List.getD, List.getElem?_take, hlt] using h3
        exact ih e hlt all[e] (by simp [hlen]) (fun e2 h2 => hS e all[e] (by simp [hlen]) hSe e2 h2) i h5

theorem allBelow_spec {p : Nat → Nat → Bool} : ∀ {n : Nat}, allBelow p n = true → ∀ i j, i < j → j < n → p i j = true
  | 0, _, i, j, _, h => by omega
  | n + 1, h, i, j, h1, h2 => by
    simp only [allBelow, Bool.and_eq_true, List.all_eq_true, List.mem_range] at h
    by_cases e : j = n
    · subst e; exact h.2 i h1
    · exact allBelow_spec h.1 i j h1 (by omega)

end Go.Rf

set_option linter.unusedVariables false
set_option linter.unusedSimpArgs false
set_option linter.unusedSectionVars false
namespace Go.Rf
open Go

theorem evals_congr {T T' : List TV} : ∀ (xs : List Operand), (∀ x ∈ xs, evalA T x = evalA T' x) → xs.map (evalA T) = xs.map (evalA T')
  | [], _ => rfl
  | x :: xs, h => by rw [List.map_cons, List.map_cons, h x (by simp), evals_congr xs fun y hy => h y (by simp [hy])]

theorem evalParts_congr {T T' : List TV} (ps : Array (Nat × Operand)) (h : ∀ x ∈ ps.map (·.2), evalA T x = evalA T' x) : evalParts T ps.toList = evalParts T' ps.toList := by
  unfold evalParts
  refine List.map_congr_left fun p hp => ?_
  obtain ⟨i, x⟩ := p
  simp only [h x (Array.mem_map.2 ⟨(i, x), by simpa using hp, rfl⟩)]

theorem opA_congr {Γ : Tab} {C : Nat → List GS} {T T' : List TV} {hg : Nat → Option Seg} {lk : Nat → Bool} {nid : Nat} (o : Oper) (h : ∀ x ∈ o.op.operands, evalA T x = evalA T' x) :
    opA Γ C T hg lk nid o = opA Γ C T' hg lk nid o := by
  obtain ⟨dst, op, type, pos, after, guard⟩ := o
  unfold opA
  cases op <;> simp only [Op.operands] at h <;> simp only
  case build t ps => rw [evalParts_congr ps fun x hx => h x (by simpa using hx)]
  case buildSlice t n ps => rw [evalParts_congr ps fun x hx => h x (by simpa using hx)]
  case makeFunc fn first captured =>
    cases fn <;> simp only
    rw [evals_congr captured.toList fun x hx => h x (by simp_all)]
  case call c =>
    obtain ⟨callee, args, ats⟩ := c
    simp only [Call.operands] at h
    cases callee <;> simp only
    case value f =>
      rw [evals_congr args.toList fun x hx => h x (by simp_all), h f (by simp)]
    case builtin b => rw [evals_congr args.toList fun x hx => h x (by simp_all)]
  case slice t x lo hi mx => cases lo <;> cases hi <;> cases mx <;> simp_all
  all_goals (first | rfl | (simp_all; done))

theorem opZ_congr {Γ : Tab} {C : Nat → List GS} {Z : Nat → Option EK} {T T' : List TV} {hg : Nat → Option Seg} {lk : Nat → Bool} {nid : Nat} (o : Oper) (h : ∀ x ∈ o.op.operands, evalA T x = evalA T' x) :
    opZ Γ C Z T hg lk nid o = opZ Γ C Z T' hg lk nid o := by
  unfold opZ
  rw [opA_congr o h]
  obtain ⟨dst, op, type, pos, after, guard⟩ := o
  cases op <;> simp only [Op.operands] at h <;> simp only
  case buildSlice t n ps =>
    have e := evalParts_congr ps fun x hx => h x (by simpa using hx)
    cases dst <;> simp only [e]
  case call c =>
    obtain ⟨callee, args, ats⟩ := c
    simp only [Call.operands] at h
    cases callee <;> (try simp only)
    case value f =>
      have e := evals_congr args.toList fun x hx => h x (by simp_all)
      have e2 := h f (by simp)
      cases dst <;> simp only [e, e2]
  case store t x v =>
    have e1 := h x (by simp)
    have e2 := h v (by simp)
    simp only [e1, e2]
  case makeInterface t x => simp only [h x (by simp)]
  case assign x =>
    cases x with
    | tmp s =>
      cases dst with
      | none => rfl
      | some t =>
        have e := h (.tmp s) (by simp)
        simp only [evalA] at e
        simp only [e]
    | const v => split <;> first | rfl | (rename_i hh; cases hh; done) | (rename_i hh _; cases hh; done) | (exfalso; simp_all; done)
    | func f => rfl
    | global g => rfl

/-! Which operations are apart -/

theorem tmpClash_spec {all : List Oper} {x y : Oper} (h : tmpClash all x y = false) :
    (∀ d, x.dst = some d → d ∉ opTmps y all ∧ y.dst ≠ some d) ∧ (∀ d, y.dst = some d → d ∉ opTmps x all) := by
  unfold tmpClash at h
  simp only [Bool.or_eq_false_iff] at h
  obtain ⟨h1, h2⟩ := h
  constructor
  · intro d hd
    rw [hd] at h1
    simp only [Bool.or_eq_false_iff] at h1
    obtain ⟨h3, h4⟩ := h1
    refine ⟨by simpa using h3, fun he => ?_⟩
    rw [he] at h4
    simp at h4
  · intro d hd
    rw [hd] at h2
    simpa using h2

theorem edgesOk_spec : ∀ {os : List Oper} {i : Nat}, edgesOk i os = true → ∀ j o, os[j]? = some o → ∀ e ∈ edges o, e < i + j
  | [], _, _, j, o, hj, _, _ => by simp at hj
  | x :: os, i, h, j, o, hj, e, he => by
    simp only [edgesOk, Bool.and_eq_true, List.all_eq_true, decide_eq_true_eq] at h
    cases j with
    | zero => simp at hj; subst hj; exact h.1 e he
    | succ j =>
      have := edgesOk_spec h.2 j o (by simpa using hj) e he
      omega

theorem mem_edges {o : Oper} {S : Nat → Bool} : (∀ e ∈ o.after, Region.binds .any e = true → S e.on = true) ↔ (∀ x ∈ edges o, S x = true) := by
  unfold edges
  constructor
  · intro h x hx
    obtain ⟨e, he, hx⟩ := List.mem_filterMap.1 hx
    have he' : e ∈ o.after := by simpa using he
    split at hx <;> try (cases hx; done)
    rename_i n1 n2
    cases hx
    refine h e he' ?_
    unfold Region.binds
    split
    · rename_i a ha; exact absurd ha (n1 a)
    · rename_i a ha; exact absurd ha (n2 a)
    · rfl
  · intro h e he hb
    refine h e.on (List.mem_filterMap.2 ⟨e, by simpa using he, ?_⟩)
    unfold Region.binds at hb
    split at hb
    · simp at hb
    · simp at hb
    · rename_i n1 n2
      split
      · rename_i a ha; exact absurd ha (n1 a)
      · rename_i a ha; exact absurd ha (n2 a)
      · rfl

/-- How many of the first n are not listed. -/
def cnt (S : Nat → Bool) : Nat → Nat
  | 0 => 0
  | n + 1 => cnt S n + (if S n then 0 else 1)

theorem cnt_set {S S' : Nat → Bool} {i : Nat} (hi : S i = false) (h1 : S' i = true) (h2 : ∀ j, j ≠ i → S' j = S j) : ∀ n, i < n → cnt S' n + 1 = cnt S n
  | 0, h => by omega
  | n + 1, h => by
    simp only [cnt]
    by_cases e : i = n
    · subst e
      have : ∀ m, m ≤ i → cnt S' m = cnt S m := by
        intro m
        induction m with
        | zero => intro _; rfl
        | succ m ih => intro hm; simp only [cnt]; rw [ih (by omega), h2 m (by omega)]
      rw [this i (Nat.le_refl _), hi, h1]; simp
    · have := cnt_set hi h1 h2 n (by omega)
      rw [h2 n (Ne.symm e)]
      omega

theorem cnt_zero {S : Nat → Bool} : ∀ {n : Nat}, cnt S n = 0 → ∀ i, i < n → S i = true
  | 0, _, i, hi => by omega
  | n + 1, h, i, hi => by
    simp only [cnt] at h
    by_cases e : i = n
    · subst e
      by_cases hs : S i = true
      · exact hs
      · simp [hs] at h
    · exact cnt_zero (n := n) (by omega) i (by omega)

section
variable {P : Program} {Γ : Tab} {C : Nat → List GS} {Z : Nat → Option EK} {nt : Nat} {ops : Array Oper} {Q : Exit → Act → World → Prop}

def TS (nt : Nat) (rs : List Rec) (c : Cf) (S : Nat → Bool) : List TV := (List.range nt).map (foldS S (rs.map (fT nt)) (fun t => c.T.getD t unkT))
noncomputable def HS (rs : List Rec) (c : Cf) (S : Nat → Bool) : Nat → Option Seg := foldS S (rs.map fH) (hget c.H)
noncomputable def LS (rs : List Rec) (c : Cf) (S : Nat → Bool) : Nat → Bool := foldS S (rs.map fL) (hlink c.H)

theorem map_get {α β : Type} {rs : List α} {g : α → β} {j : Nat} {f : β} (h : (rs.map g)[j]? = some f) : ∃ r, rs[j]? = some r ∧ f = g r := by
  rw [List.getElem?_map] at h
  cases hr : rs[j]? with
  | none => rw [hr] at h; cases h
  | some r => rw [hr] at h; cases h; exact ⟨r, rfl, rfl⟩

theorem TS_get {rs : List Rec} {c : Cf} {S : Nat → Bool} (hn : c.T.length = nt) (t : Nat) : (TS nt rs c S).getD t unkT = foldS S (rs.map (fT nt)) (fun t => c.T.getD t unkT) t := by
  unfold TS
  by_cases h : t < nt
  · simp [List.getD, h]
  · have h1 : ((List.range nt).map (foldS S (rs.map (fT nt)) (fun t => c.T.getD t unkT)))[t]? = none := by simp; omega
    rw [List.getD, h1, foldS_none]
    · have : c.T[t]? = none := by simp; omega
      simp [List.getD, this]
    · intro j f hj _
      obtain ⟨r, hr, e⟩ := map_get hj
      subst e
      simp [fT, h]

theorem TS_len {rs : List Rec} {c : Cf} {S : Nat → Bool} : (TS nt rs c S).length = nt := by simp [TS]

structure Inv (nt : Nat) (as : List Nat) (rs : List Rec) (c : Cf) (rom : Rom) (ρ : RM) (a : Act) (w : World) (S : Nat → Bool) (a' : Act) (w' : World) (rom' : Rom) (ρ' : RM) : Prop where
  t : TRel rom' ρ' (TS nt rs c S) a'.tmps
  rel : Rel rom' ρ' (HS rs c S) w'
  lnk : Lnk ρ' (HS rs c S) (LS rs c S)
  tr : Tr rom ρ (hget c.H) w rom' ρ' (HS rs c S) w'
  dom : ∀ id, c.H.length ≤ id → (∀ (j : Nat) (r : Rec), rs[j]? = some r → S j = true → r.newAt id = false) → ρ' id = none
  df : a'.defers = []
  nt : a'.tmps.size = nt
  tm : ∀ t, t ∉ as → a'.tmps[t]? = a.tmps[t]?

def addS (S : Nat → Bool) (i : Nat) : Nat → Bool := fun j => S j || decide (j = i)

theorem addS_ne {S : Nat → Bool} {i j : Nat} (h : j ≠ i) : addS S i j = S j := by simp [addS, h]
theorem addS_same {S : Nat → Bool} {i : Nat} : addS S i i = true := by simp [addS]

theorem RecOk.wr {all : List Oper} {c : Cf} {r : Rec} (h : RecOk Γ C Z all c r) {id : Nat} (ht : r.newAt id = true ∨ r.updAt id = true) : ∃ rd wr, r.fp = some (rd, wr) ∧ id ∈ wr := by
  obtain ⟨_, ⟨_, e, _⟩ | ⟨rd, wr, q, x, hf, _, _, _, _, hu, _⟩⟩ := h
  · simp [Rec.newAt, Rec.updAt, e] at ht
    omega
  · refine ⟨rd, _, hf, ?_⟩
    rcases ht with ht | ht
    · simp only [Rec.newAt, Bool.and_eq_true, decide_eq_true_eq] at ht
      exact List.mem_append.2 (.inr ((mem_fromN _ _ _).2 ht))
    · obtain ⟨y, hy, e⟩ := List.any_eq_true.1 ht
      simp only [beq_iff_eq] at e
      subst e
      exact List.mem_append.2 (.inl (updsOk_spec hu y hy).2)

theorem meets_of {a b : List Nat} {i : Nat} (h1 : i ∈ a) (h2 : i ∈ b) : meets a b = true := List.any_eq_true.2 ⟨i, h1, by rw [memN_eq]; simpa using h2⟩

theorem clash_of {x y : List Nat × List Nat} {i : Nat} (h : (i ∈ x.2 ∧ (i ∈ y.1 ∨ i ∈ y.2)) ∨ (i ∈ x.1 ∧ i ∈ y.2)) : fpClash x y = true := by
  unfold fpClash
  rcases h with ⟨h1, h2 | h2⟩ | ⟨h1, h2⟩
  · simp [meets_of h1 h2]
  · simp [meets_of h1 h2]
  · simp [meets_of h1 h2]

/-- What is known of the whole region. -/
structure Ctx (Γ : Tab) (C : Nat → List GS) (Z : Nat → Option EK) (nt : Nat) (all : List Oper) (rs : List Rec) (c c' : Cf) : Prop where
  mp : rs.map (·.o) = all
  ats : ∀ (i : Nat) (r : Rec), rs[i]? = some r → ∃ ci, RecOk Γ C Z all ci r ∧ c.H.length ≤ r.n ∧ r.n + r.e.new.length ≤ c'.H.length ∧
      (∀ t, ci.T.getD t unkT = foldS (fun j => decide (j < i)) (rs.map (fT nt)) (fun t => c.T.getD t unkT) t) ∧
      (∀ id, hget ci.H id = foldS (fun j => decide (j < i)) (rs.map fH) (hget c.H) id) ∧
      (∀ id, hlink ci.H id = foldS (fun j => decide (j < i)) (rs.map fL) (hlink c.H) id)
  apart : ∀ (i j : Nat) (r s : Rec), rs[i]? = some r → rs[j]? = some s → i < j → r.n + r.e.new.length ≤ s.n
  len : c.T.length = nt
  ed : edgesOk 0 all = true
  tp : ∀ (i j : Nat) (r s : Rec), rs[i]? = some r → rs[j]? = some s → i < j → tmpClash all r.o s.o = false ∨ Nat.testBit ((befores all []).getD j 0) i = true
  fp : ∀ (i j : Nat) (r s : Rec) (x y : List Nat × List Nat), rs[i]? = some r → rs[j]? = some s → i < j → r.fp = some x → s.fp = some y → fpClash y x = false ∨ Nat.testBit ((befores all []).getD j 0) i = true

structure Down (all : List Oper) (S : Nat → Bool) : Prop where
  cl : ∀ j o, all[j]? = some o → S j = true → ∀ e ∈ edges o, S e = true

theorem Ctx.op {all : List Oper} {rs : List Rec} {c c' : Cf} (X : Ctx Γ C Z nt all rs c c') {i : Nat} {r : Rec} (h : rs[i]? = some r) : all[i]? = some r.o := by
  rw [← X.mp, List.getElem?_map, h]; rfl

/-- Of two that clash, the earlier is done before the later one may be. -/
theorem Ctx.order {all : List Oper} {rs : List Rec} {c c' : Cf} (X : Ctx Γ C Z nt all rs c c') {S : Nat → Bool} (hS : Down all S) {i j : Nat} {r : Rec}
    (hi : rs[i]? = some r) (hSi : S i = false) (hpre : ∀ e ∈ edges r.o, S e = true) {s : Rec} (hj : rs[j]? = some s)
    (hcl : (j < i → Nat.testBit ((befores all []).getD i 0) j = true) ∧ (i < j → Nat.testBit ((befores all []).getD j 0) i = true)) : decide (j < i) = S j := by
  rcases Nat.lt_trichotomy j i with h | h | h
  · have := befores_closed X.ed hS.cl i r.o (X.op hi) hpre j (hcl.1 h)
    simp [h, this]
  · subst h; simp [hSi]
  · have hn : ¬ j < i := by omega
    cases hSj : S j with
    | false => simp [hn]
    | true =>
      have := befores_closed X.ed hS.cl j s.o (X.op hj) (fun e he => hS.cl j s.o (X.op hj) hSj e he) i (hcl.2 h)
      rw [hSi] at this; cases this

section
variable {all : List Oper} {rs : List Rec} {c c' ci : Cf} {S : Nat → Bool} {i : Nat} {r : Rec}

theorem Ctx.agT (X : Ctx Γ C Z nt all rs c c') (hS : Down all S) (hi : rs[i]? = some r) (hSi : S i = false) (hpre : ∀ e ∈ edges r.o, S e = true) {t : Nat} (ht : t ∈ opTmps r.o all) :
    foldS (fun j => decide (j < i)) (rs.map (fT nt)) (fun t => c.T.getD t unkT) t = foldS S (rs.map (fT nt)) (fun t => c.T.getD t unkT) t := by
  refine foldS_agree _ _ _ _ _ _ rfl fun j f v hj hf => ?_
  obtain ⟨s, hs, e⟩ := map_get hj
  subst e
  unfold fT at hf
  split at hf <;> try (cases hf; done)
  rename_i hd
  refine X.order hS hi hSi hpre hs ⟨fun h => ?_, fun h => ?_⟩
  · exact (X.tp j i s r hs hi h).resolve_left fun h0 => ((tmpClash_spec h0).1 t hd.1).1 ht
  · exact (X.tp i j r s hi hs h).resolve_left fun h0 => (tmpClash_spec h0).2 t hd.1 ht

theorem Ctx.agF (X : Ctx Γ C Z nt all rs c c') (hS : Down all S) (hi : rs[i]? = some r) (hSi : S i = false) (hpre : ∀ e ∈ edges r.o, S e = true) {rd wr : List Nat} (hf : r.fp = some (rd, wr)) {id : Nat} (ht : id ∈ rd ∨ id ∈ wr)
    {j : Nat} {s : Rec} (hj : rs[j]? = some s) (htj : s.newAt id = true ∨ s.updAt id = true) : decide (j < i) = S j := by
  obtain ⟨cj, hok, _⟩ := X.ats j s hj
  obtain ⟨rd', wr', hf', hm⟩ := hok.wr htj
  refine X.order hS hi hSi hpre hj ⟨fun h => ?_, fun h => ?_⟩
  · refine (X.fp j i s r _ _ hj hi h hf' hf).resolve_left fun h0 => ?_
    have : fpClash (rd, wr) (rd', wr') = true := clash_of (i := id) (by rcases ht with ht | ht <;> simp [ht, hm])
    rw [h0] at this; cases this
  · refine (X.fp i j r s _ _ hi hj h hf hf').resolve_left fun h0 => ?_
    have : fpClash (rd', wr') (rd, wr) = true := clash_of (i := id) (by rcases ht with ht | ht <;> simp [ht, hm])
    rw [h0] at this; cases this

theorem fH_some {s : Rec} {id : Nat} {v : Option Seg} (h : fH s id = some v) : s.newAt id = true ∨ s.updAt id = true := by
  unfold fH at h
  split at h <;> try (cases h; done)
  rename_i h0
  simpa using h0

theorem fL_some {s : Rec} {id : Nat} {v : Bool} (h : fL s id = some v) : s.newAt id = true := by
  unfold fL at h
  split at h <;> try (cases h; done)
  rename_i h0
  exact h0

/-- Values behind one more operation. -/
theorem Ctx.addT (X : Ctx Γ C Z nt all rs c c') (hS : Down all S) (hi : rs[i]? = some r) (hSi : S i = false) (t : Nat) :
    foldS (addS S i) (rs.map (fT nt)) (fun t => c.T.getD t unkT) t = (fT nt r t).getD (foldS S (rs.map (fT nt)) (fun t => c.T.getD t unkT) t) := by
  cases hf : fT nt r t with
  | none =>
    refine foldS_agree _ _ _ _ _ _ rfl fun j f v hj hv => ?_
    obtain ⟨s, hs, e⟩ := map_get hj
    subst e
    refine addS_ne fun e => ?_
    subst e
    rw [hi] at hs
    cases hs
    rw [hf] at hv; cases hv
  | some v =>
    refine foldS_last _ _ _ _ i (fT nt r) v (by rw [List.getElem?_map, hi]; rfl) addS_same hf fun j g hij hj hSj => ?_
    obtain ⟨s, hs, e⟩ := map_get hj
    subst e
    rw [addS_ne (by omega)] at hSj
    cases hg : fT nt s t with
    | none => rfl
    | some u =>
      exfalso
      unfold fT at hf hg
      split at hf <;> try (cases hf; done)
      rename_i h1
      split at hg <;> try (cases hg; done)
      rename_i h2
      have hb := (X.tp i j r s hi hs hij).resolve_left fun h0 => ((tmpClash_spec h0).1 t h1.1).2 h2.1
      have := befores_closed X.ed hS.cl j s.o (X.op hs) (fun e he => hS.cl j s.o (X.op hs) hSj e he) i hb
      rw [hSi] at this; cases this

theorem Ctx.later (X : Ctx Γ C Z nt all rs c c') (hS : Down all S) (hi : rs[i]? = some r) (hSi : S i = false) {id : Nat} (ht : r.newAt id = true ∨ r.updAt id = true) {j : Nat} {s : Rec} (hj : rs[j]? = some s) (hij : i < j) (hSj : S j = true) :
    ¬ (s.newAt id = true ∨ s.updAt id = true) := by
  intro hs
  obtain ⟨cj, hok, _⟩ := X.ats j s hj
  obtain ⟨rd', wr', hf', hm'⟩ := hok.wr hs
  obtain ⟨ci, hok2, _⟩ := X.ats i r hi
  obtain ⟨rd, wr, hf, hm⟩ := hok2.wr ht
  have hb := (X.fp i j r s _ _ hi hj hij hf hf').resolve_left fun h0 => by
    have : fpClash (rd', wr') (rd, wr) = true := clash_of (i := id) (by simp [hm, hm'])
    rw [h0] at this; cases this
  have := befores_closed X.ed hS.cl j s.o (X.op hj) (fun e he => hS.cl j s.o (X.op hj) hSj e he) i hb
  rw [hSi] at this; cases this

theorem Ctx.addH (X : Ctx Γ C Z nt all rs c c') (hS : Down all S) (hi : rs[i]? = some r) (hSi : S i = false) (id : Nat) :
    HS rs c (addS S i) id = (fH r id).getD (HS rs c S id) := by
  unfold HS
  cases hf : fH r id with
  | none =>
    refine foldS_agree _ _ _ _ _ _ rfl fun j f v hj hv => ?_
    obtain ⟨s, hs, e⟩ := map_get hj
    subst e
    refine addS_ne fun e => ?_
    subst e
    rw [hi] at hs
    cases hs
    rw [hf] at hv; cases hv
  | some v =>
    refine foldS_last _ _ _ _ i (fH r) v (by rw [List.getElem?_map, hi]; rfl) addS_same hf fun j g hij hj hSj => ?_
    obtain ⟨s, hs, e⟩ := map_get hj
    subst e
    rw [addS_ne (by omega)] at hSj
    cases hg : fH s id with
    | none => rfl
    | some u => exact absurd (fH_some hg) (X.later hS hi hSi (fH_some hf) hs hij hSj)

theorem Ctx.addL (X : Ctx Γ C Z nt all rs c c') (hS : Down all S) (hi : rs[i]? = some r) (hSi : S i = false) (id : Nat) :
    LS rs c (addS S i) id = (fL r id).getD (LS rs c S id) := by
  unfold LS
  cases hf : fL r id with
  | none =>
    refine foldS_agree _ _ _ _ _ _ rfl fun j f v hj hv => ?_
    obtain ⟨s, hs, e⟩ := map_get hj
    subst e
    refine addS_ne fun e => ?_
    subst e
    rw [hi] at hs
    cases hs
    rw [hf] at hv; cases hv
  | some v =>
    refine foldS_last _ _ _ _ i (fL r) v (by rw [List.getElem?_map, hi]; rfl) addS_same hf fun j g hij hj hSj => ?_
    obtain ⟨s, hs, e⟩ := map_get hj
    subst e
    rw [addS_ne (by omega)] at hSj
    cases hg : fL s id with
    | none => rfl
    | some u => exact absurd (.inl (fL_some hg)) (X.later hS hi hSi (.inl (fL_some hf)) hs hij hSj)

end
end
end Go.Rf

set_option linter.unusedVariables false
set_option linter.unusedSimpArgs false
set_option linter.unusedSectionVars false
namespace Go.Rf
open Go

section
variable {P : Program} {Γ : Tab} {C : Nat → List GS} {Z : Nat → Option EK} {nt : Nat} {ops : Array Oper} {Q : Exit → Act → World → Prop}
variable {all : List Oper} {rs : List Rec} {c c' ci : Cf} {S : Nat → Bool} {i : Nat} {r : Rec} {as : List Nat} {rom rom' : Rom} {ρ ρ' : RM} {a a' : Act} {w w' : World}

theorem put_tm (ha : ∀ t, t ∉ as → a'.tmps[t]? = a.tmps[t]?) {d : Option Nat} (hd : ∀ t, d = some t → t ∈ as) (u : Value) : ∀ t, t ∉ as → (a'.put d u).tmps[t]? = a.tmps[t]? := by
  intro t ht
  cases d with
  | none => exact ha t ht
  | some d =>
    have hne : d ≠ t := fun e => ht (hd t (by rw [e]))
    simp only [Act.put]
    rw [Array.getElem?_setIfInBounds_ne hne]
    exact ha t ht

theorem TS_put (X : Ctx Γ C Z nt all rs c c') (hS : Down all S) (hi : rs[i]? = some r) (hSi : S i = false) (hT : TRel rom ρ (TS nt rs c S) a'.tmps) (hn : a'.tmps.size = nt) {u : Value} (hv : TVRel rom ρ r.e.v u) :
    TRel rom ρ (TS nt rs c (addS S i)) (a'.put r.o.dst u).tmps := by
  refine TRel.of_get (by rw [TS_len]; cases r.o.dst <;> simp [Act.put, hn]) fun t => ?_
  rw [TS_get X.len, X.addT hS hi hSi]
  have h0 := hT.get t
  rw [TS_get X.len] at h0
  have hf : fT nt r t = if r.o.dst = some t ∧ t < nt then some r.e.v else none := rfl
  rw [hf]
  cases hd : r.o.dst with
  | none => simpa [Act.put] using h0
  | some d =>
    by_cases e : d = t
    · subst e
      by_cases hlt : d < nt
      · have : d < a'.tmps.size := by rw [hn]; exact hlt
        simp [Act.put, hlt, this, hv]
      · have h1 : ¬ d < a'.tmps.size := by rw [hn]; exact hlt
        simp only [hlt, and_false, if_false, Option.getD_none, Act.put]
        have : (a'.tmps.setIfInBounds d u) = a'.tmps := by simp [Array.setIfInBounds, h1]
        rw [this]; exact h0
    · simp only [Option.some.injEq, e, false_and, if_false, Option.getD_none, Act.put]
      have : (a'.tmps.setIfInBounds d u).getD t undef = a'.tmps.getD t undef := by
        simp [Array.getElem?_setIfInBounds_ne e]
      rw [this]; exact h0

theorem inv_step (hΓ : TabOK P Γ) (hC : TabC P C) (X : Ctx Γ C Z nt ops.toList rs c c') (hS : Down ops.toList S) (hi : rs[i]? = some r) (hSi : S i = false) (hpre : ∀ e ∈ edges r.o, S e = true)
    (has : ∀ t, r.o.dst = some t → t ∈ as) (I : Inv nt as rs c rom ρ a w S a' w' rom' ρ') :
    wpOp P ops Q i (fun a2 w2 => ∃ rom2 ρ2, Inv nt as rs c rom ρ a w (addS S i) a2 w2 rom2 ρ2) a' w' := by
  obtain ⟨ci, hok, hn0, hn1, hT, hH, hL⟩ := X.ats i r hi
  have ho : ops[i]? = some r.o := by simpa using X.op hi
  -- temporaries that the operation looks at
  have tmpEq : ∀ t, t ∈ opTmps r.o ops.toList → ci.T.getD t unkT = (TS nt rs c S).getD t unkT := fun t ht => by rw [hT, TS_get X.len, X.agT hS hi hSi hpre ht]
  have guardEq : ∀ j want d, r.o.guard = some (j, want) → dstOf ops.toList j = some d → ci.T.getD d unkT = (TS nt rs c S).getD d unkT := fun j want d hg hd => tmpEq d (by
    unfold opTmps
    rw [hg]
    exact List.mem_append.2 (.inr (by simp [hd])))
  unfold wpOp
  rw [ho]
  simp only
  obtain ⟨hrn, ⟨hfp, he, j, want, d, hg, hd, hb⟩ | ⟨rd, wr, q, x, hfp, hq, hchk, hx, he, hu, hgd⟩⟩ := hok
  · -- left out
    have hw : Region.wanted r.o (yielded ops a'.tmps) = false := by
      rw [guardEq j want d hg hd] at hb
      rcases hb with hb | hb
      · simp only [Region.wanted, hg, yielded_bool I.t hd hb]; cases want <;> rfl
      · simp only [Region.wanted, hg, yielded_tup I.t hd hb]; cases want <;> rfl
    rw [if_neg (by simp [hw])]
    have hH' : HS rs c (addS S i) = HS rs c S := by
      funext id
      rw [X.addH hS hi hSi]
      have : fH r id = none := by
        have h1 : r.newAt id = false := by simp [Rec.newAt, he]
        have h2 : r.updAt id = false := by simp [Rec.updAt, he]
        simp [fH, h1, h2]
      rw [this]; rfl
    have hL' : LS rs c (addS S i) = LS rs c S := by
      funext id
      rw [X.addL hS hi hSi]
      have : fL r id = none := by
        have h1 : r.newAt id = false := by simp [Rec.newAt, he]
        simp [fL, h1]
      rw [this]; rfl
    refine ⟨rom', ρ', TS_put X hS hi hSi I.t I.nt (by rw [he]; exact undef_rel _ _), by rw [hH']; exact I.rel, by rw [hH', hL']; exact I.lnk, by rw [hH']; exact I.tr, fun id h1 h2 => I.dom id h1 fun k s hk hSk => h2 k s hk (by simp [addS, hSk]), ?_, ?_, put_tm I.tm has _⟩
    · cases r.o.dst <;> exact I.df
    · cases r.o.dst <;> simp [Act.put, I.nt]
  · -- done
    have hw : Region.wanted r.o (yielded ops a'.tmps) = true := by
      rcases hgd with hgd | ⟨j, want, d, hg, hd, hb⟩
      · simp [Region.wanted, hgd]
      · rw [guardEq j want d hg hd] at hb
        simp [Region.wanted, hg, yielded_bool I.t hd hb]
    rw [if_pos hw]
    refine .inl ?_
    -- the same answer at the state at hand
    have hHe : hgOnly (rd ++ wr) (hget ci.H) = hgOnly (rd ++ wr) (HS rs c S) := by
      funext id
      unfold hgOnly
      rw [memN_eq]
      cases hm : (rd ++ wr).contains id with
      | false => rfl
      | true =>
        simp only [cond_true]
        rw [hH]
        have hm' : id ∈ rd ∨ id ∈ wr ++ fromN r.n r.e.new := by
          have : id ∈ rd ++ wr := by simpa using hm
          rcases List.mem_append.1 this with h | h
          · exact .inl h
          · exact .inr (List.mem_append.2 (.inl h))
        refine foldS_agree _ _ _ _ _ _ rfl fun j f v hj hf => ?_
        obtain ⟨s, hs, e⟩ := map_get hj
        subst e
        exact X.agF hS hi hSi hpre hfp hm' hs (fH_some hf)
    have hLe : lkOnly (rd ++ wr) (hlink ci.H) = lkOnly (rd ++ wr) (LS rs c S) := by
      funext id
      unfold lkOnly
      rw [memN_eq]
      cases hm : (rd ++ wr).contains id with
      | false => rfl
      | true =>
        simp only [cond_true]
        rw [hL]
        have hm' : id ∈ rd ∨ id ∈ wr ++ fromN r.n r.e.new := by
          have : id ∈ rd ++ wr := by simpa using hm
          rcases List.mem_append.1 this with h | h
          · exact .inl h
          · exact .inr (List.mem_append.2 (.inl h))
        refine foldS_agree _ _ _ _ _ _ rfl fun j f v hj hf => ?_
        obtain ⟨s, hs, e⟩ := map_get hj
        subst e
        exact X.agF hS hi hSi hpre hfp hm' hs (.inl (fL_some hf))
    rw [hHe, hLe, ← hrn] at hq
    rw [opZ_congr (T' := TS nt rs c S) r.o (fun y hy => by
      cases y with
      | tmp t =>
        refine tmpEq t (List.mem_append.2 (.inl (List.mem_filterMap.2 ⟨.tmp t, by simpa using hy, rfl⟩)))
      | _ => rfl)] at hq
    have subH : ∀ id g, hgOnly (rd ++ wr) (HS rs c S) id = some g → HS rs c S id = some g := fun id g h => by
      simp only [hgOnly, memN_eq] at h
      cases hm : (rd ++ wr).contains id with
      | false => rw [hm] at h; cases h
      | true => rw [hm] at h; exact h
    have subL : ∀ id, lkOnly (rd ++ wr) (LS rs c S) id = true → LS rs c S id = true := fun id h => by
      simp only [lkOnly, memN_eq] at h
      cases hm : (rd ++ wr).contains id with
      | false => rw [hm] at h; cases h
      | true => rw [hm] at h; exact h
    have hfree : ∀ id, r.n ≤ id → id < r.n + (q.k x).new.length → ρ' id = none := fun id h1 h2 => by
      refine I.dom id (by omega) fun j s hj hSj => ?_
      have hne : j ≠ i := fun e => by subst e; rw [hSi] at hSj; cases hSj
      rw [← he] at h2
      simp only [Rec.newAt, Bool.and_eq_false_iff, decide_eq_false_iff_not]
      rcases Nat.lt_or_ge j i with h | h
      · have := X.apart j i s r hj hi h; omega
      · have := X.apart i j r s hi hj (by omega); omega
    have hfreeH : ∀ id, r.n ≤ id → hgOnly (rd ++ wr) (HS rs c S) id = none := fun id h1 => by
      rw [← hHe]
      simp only [hgOnly, memN_eq]
      rw [hget_none (by omega)]
      cases (rd ++ wr).contains id <;> rfl
    have hdo := opZ_ok hΓ hC I.t (I.rel.sub subH) (I.lnk.sub subH subL) hq x hx hchk (fun id h1 h2 => ⟨hfreeH id h1, hfree id h1 h2⟩) Q
    refine Oper.wp_mono (fun a2 w2 hp => ?_) hdo
    obtain ⟨u, rom2, ρ2, e, hv, haft⟩ := hp
    subst e
    rw [← he] at hv haft
    have hT2 : TRel rom2 ρ2 (TS nt rs c S) a'.tmps := R2.mono (fun _ _ => TVRel.mono haft.tr.rl haft.tr.hl) _ _ I.t
    have hcase : ∀ id g, HS rs c (addS S i) id = some g → hgA (hgOnly (rd ++ wr) (HS rs c S)) r.n r.e id = some g ∨ (HS rs c S id = some g ∧ hgOnly (rd ++ wr) (HS rs c S) id = none) := by
      intro id g h
      rw [X.addH hS hi hSi] at h
      rw [hgA_fH]
      cases hf : fH r id with
      | some v => rw [hf] at h; exact .inl h
      | none =>
        rw [hf] at h
        simp only [Option.getD_none] at h ⊢
        simp only [hgOnly, memN_eq]
        cases hm : (rd ++ wr).contains id with
        | true => exact .inl h
        | false => exact .inr ⟨h, rfl⟩
    refine ⟨rom2, ρ2, TS_put X hS hi hSi hT2 I.nt hv, ?_, ?_, ?_, ?_, ?_, ?_, put_tm I.tm has _⟩
    · exact Rel.frame I.rel (fun id g h => ⟨g, subH id g h⟩) (fun _ _ _ _ h => h) haft.tr.w haft.rel (fun id g r _ _ h => haft.tr.hl id r h)
        (fun id g r _ _ _ cs h => SegRel.mono haft.tr.rl haft.tr.hl h) hcase
    · intro id p g wd h1 h2 h3 h4
      rw [X.addL hS hi hSi] at h1
      cases hf : fL r id with
      | some b =>
        rw [hf] at h1
        have hnew := fL_some hf
        refine haft.lnk id p g wd (by rw [lkN_fL, hf]; exact h1) h2 ?_ h4
        rw [X.addH hS hi hSi] at h3
        rw [hgA_fH]
        have : ∃ v, fH r id = some v := ⟨hgA (fun _ => none) r.n r.e id, by simp [fH, hnew]⟩
        obtain ⟨v, hv⟩ := this
        rw [hv] at h3 ⊢
        exact h3
      | none =>
        rw [hf] at h1
        simp only [Option.getD_none] at h1
        rcases hcase id g h3 with h5 | ⟨h5, h6⟩
        · by_cases hm : (rd ++ wr).contains id = true
          · exact haft.lnk id p g wd (by rw [lkN_fL, hf]; simp only [lkOnly, memN_eq]; rw [hm]; exact h1) h2 h5 h4
          · -- of its own, not new: it was updated, so it is in the list
            simp only [Bool.not_eq_true] at hm
            exfalso
            rw [hgA_fH] at h5
            cases hfh : fH r id with
            | none =>
              rw [hfh] at h5
              simp only [hgOnly, memN_eq] at h5
              rw [hm] at h5
              cases h5
            | some v =>
              rcases fH_some hfh with h7 | h7
              · simp [fL, h7] at hf
              · obtain ⟨y, hy, e⟩ := List.any_eq_true.1 h7
                simp only [beq_iff_eq] at e
                subst e
                have := (updsOk_spec hu y hy).2
                have hm2 : (rd ++ wr).contains y.1 = true := by simp [this]
                rw [hm] at hm2; cases hm2
        · cases hp : ρ' id with
          | none =>
            by_cases hin : r.newAt id = true
            · simp [fL, hin] at hf
            · have := haft.dom id hp (by
                simp only [Rec.newAt, Bool.and_eq_true, decide_eq_true_eq] at hin
                omega)
              rw [h2] at this; cases this
          | some p' =>
            have := haft.tr.hl id p' hp
            rw [h2] at this
            cases this
            obtain ⟨e1, p2, e2, e3⟩ := I.lnk id p g wd h1 hp h5 h4
            exact ⟨e1, p2, haft.tr.hl _ _ e2, e3⟩
    · refine I.tr.trans ?_
      refine TrW.tr (TrW.own haft.tr.w (fun b o => fun ⟨id, g, p, h1, h2, h3⟩ => ⟨id, g, p, subH _ _ h1, h2, h3⟩) ?_) haft.tr.hl
      rintro b o ⟨id, g, p, h1, h2, h3⟩ hb
      rcases hcase id g h1 with h5 | ⟨h5, h6⟩
      · exact .inl ⟨id, g, p, h5, h2, h3⟩
      · obtain ⟨p0, hp0, _⟩ := I.rel.blk id g h5
        have := haft.tr.hl _ _ hp0
        rw [h2] at this
        cases this
        exact .inr ⟨id, g, p, h5, hp0, h3⟩
    · intro id h1 h2
      refine haft.dom id (I.dom id h1 fun k s hk hSk => h2 k s hk (by simp [addS, hSk])) ?_
      have := h2 i r hi addS_same
      simp only [Rec.newAt, Bool.and_eq_false_iff, decide_eq_false_iff_not] at this
      omega
    · cases r.o.dst <;> exact I.df
    · cases r.o.dst <;> simp [Act.put, I.nt]

/-- In whichever order. -/
theorem inv_any (hΓ : TabOK P Γ) (hC : TabC P C) (X : Ctx Γ C Z nt ops.toList rs c c') (has : ∀ (i : Nat) (r : Rec), rs[i]? = some r → ∀ t, r.o.dst = some t → t ∈ as)
    (hQ : ∀ a' w' rom' ρ', Inv nt as rs c rom ρ a w (fun _ => true) a' w' rom' ρ' → Q .normal a' w') :
    ∀ (fuel : Nat) (listed : Array Bool) (a' : Act) (w' : World) (rom' : Rom) (ρ' : RM), listed.size = ops.size → Down ops.toList (fun j => listed.getD j false) → cnt (fun j => listed.getD j false) ops.size ≤ fuel →
      Inv nt as rs c rom ρ a w (fun j => listed.getD j false) a' w' rom' ρ' → wpAny P .any ops Q fuel listed a' w' := by
  have hlen : rs.length = ops.size := by
    have := congrArg List.length X.mp
    simpa using this
  have fin : ∀ (listed : Array Bool) (a' : Act) (w' : World) (rom' : Rom) (ρ' : RM), listed.size = ops.size → (∀ i, i < ops.size → listed.getD i false = true) →
      Inv nt as rs c rom ρ a w (fun j => listed.getD j false) a' w' rom' ρ' → Q .normal a' w' := by
    intro listed a' w' rom' ρ' hsz hall I
    have e : ∀ {K V : Type} (fs : List (K → Option V)) (h : K → V), fs.length = ops.size → foldS (fun j => listed.getD j false) fs h = foldS (fun _ => true) fs h := by
      intro K V fs h hl
      funext k
      refine foldS_agree _ _ _ _ _ _ rfl fun j f v hj _ => ?_
      have := (List.getElem?_eq_some_iff.1 hj).1
      exact hall j (by omega)
    have eT : TS nt rs c (fun j => listed.getD j false) = TS nt rs c (fun _ => true) := by unfold TS; rw [e _ _ (by simp [hlen])]
    have eH : HS rs c (fun j => listed.getD j false) = HS rs c (fun _ => true) := e _ _ (by simp [hlen])
    have eL : LS rs c (fun j => listed.getD j false) = LS rs c (fun _ => true) := e _ _ (by simp [hlen])
    refine hQ a' w' rom' ρ' ⟨eT ▸ I.t, eH ▸ I.rel, by rw [← eH, ← eL]; exact I.lnk, eH ▸ I.tr, fun id h1 h2 => I.dom id h1 fun j r hj _ => h2 j r hj rfl, I.df, I.nt, I.tm⟩
  have ready_all : ∀ (listed : Array Bool), listed.size = ops.size → Region.ready .any ops listed = [] → ∀ i, i < ops.size → listed.getD i false = true := by
    intro listed hsz hr i
    induction i using Nat.strongRecOn with
    | _ i ih =>
      intro hi
      cases hl : listed.getD i false with
      | true => rfl
      | false =>
        exfalso
        have hm : i ∈ Region.ready .any ops listed := by
          rw [mem_ready]
          have hi' : i < listed.size := by omega
          refine ⟨by simpa [hi'] using hl, ops[i], by simp [hi], ?_⟩
          refine (mem_edges (S := fun j => listed.getD j false)).2 fun e he => ?_
          have := edgesOk_spec X.ed i ops[i] (by simp [hi]) e he
          exact ih e (by omega) (by omega)
        rw [hr] at hm; cases hm
  intro fuel
  induction fuel with
  | zero =>
    intro listed a' w' rom' ρ' hsz hS hc I
    have hall := cnt_zero (S := fun j => listed.getD j false) (n := ops.size) (by omega)
    have hr : Region.ready .any ops listed = [] := by
      refine List.eq_nil_iff_forall_not_mem.2 fun i hi => ?_
      obtain ⟨h0, o, ho, _⟩ := mem_ready.1 hi
      have hlt : i < ops.size := (Array.getElem?_eq_some_iff.1 ho).1
      have := hall i hlt
      have hi' : i < listed.size := by omega
      simp [hi'] at h0 this
      rw [h0] at this; cases this
    exact ⟨hr, fin listed a' w' rom' ρ' hsz hall I⟩
  | succ fuel ih =>
    intro listed a' w' rom' ρ' hsz hS hc I
    refine ⟨fun hr => fin listed a' w' rom' ρ' hsz (ready_all listed hsz hr) I, fun i hi => ?_⟩
    obtain ⟨h0, o, ho, hpre⟩ := mem_ready.1 hi
    have hlt : i < ops.size := (Array.getElem?_eq_some_iff.1 ho).1
    have hi' : i < listed.size := by omega
    have hSi : (fun j => listed.getD j false) i = false := by simpa [hi'] using h0
    obtain ⟨r, hr⟩ : ∃ r, rs[i]? = some r := ⟨rs[i]'(by omega), by simp [hlen, hlt]⟩
    have hro : r.o = o := by
      have := X.op hr
      have h2 : ops.toList[i]? = some o := by simpa using ho
      rw [h2] at this; cases this; rfl
    have hpre' : ∀ e ∈ edges r.o, (fun j => listed.getD j false) e = true := by
      rw [hro]; exact (mem_edges (S := fun j => listed.getD j false)).1 hpre
    refine wpOp_mono (fun a2 w2 h => ?_) (inv_step hΓ hC X hS hr hSi hpre' (has i r hr) I)
    obtain ⟨rom2, ρ2, I2⟩ := h
    have eS : addS (fun j => listed.getD j false) i = fun j => (listed.setIfInBounds i true).getD j false := by
      funext j
      by_cases e : j = i
      · subst e; simp [addS, hi']
      · rw [addS_ne e]
        simp [Array.getElem?_setIfInBounds_ne (Ne.symm e)]
    rw [eS] at I2
    refine ih _ _ _ rom2 ρ2 (by simpa using hsz) ⟨?_⟩ ?_ I2
    · intro j o' hj hSj e he
      have hSj : addS (fun j => listed.getD j false) i j = true := by rw [eS]; exact hSj
      have goal : addS (fun j => listed.getD j false) i e = true → (listed.setIfInBounds i true).getD e false = true := fun h => by rw [eS] at h; exact h
      refine goal ?_
      by_cases h : j = i
      · subst h
        have h2 : ops.toList[j]? = some o := by simpa using ho
        rw [h2] at hj
        cases hj
        simp only [addS, hpre' e (hro ▸ he), Bool.true_or]
      · rw [addS_ne h] at hSj
        simp only [addS, hS.cl j o' hj hSj e he, Bool.true_or]
    · have := cnt_set (S := fun j => listed.getD j false) (S' := fun j => (listed.setIfInBounds i true).getD j false) hSi (by simp [hi']) (fun j hj => by simp [Array.getElem?_setIfInBounds_ne (Ne.symm hj)]) ops.size hlt
      omega

theorem Rel.drawn {hg : Nat → Option Seg} {n : Nat} (h : Rel rom ρ hg w) : Rel rom ρ hg { w with drawn := n } := h.world fun _ _ _ => ⟨rfl, rfl⟩

theorem Tr.drawn {hg : Nat → Option Seg} {n : Nat} : Tr rom ρ hg w rom ρ hg { w with drawn := n } :=
  ⟨fun _ _ _ h => h, fun _ _ h => h, Nat.le_refl _, rfl, rfl, rfl, fun _ _ _ => rfl, fun _ _ _ _ => ⟨rfl, rfl⟩, fun _ _ h _ => h, fun _ _ _ h1 h2 _ => by rw [h2] at h1; cases h1⟩

theorem runAny_ok {R : Type} {z : R} {id : Nat} (hΓ : TabOK P Γ) (hC : TabC P C) (hm : P.follows .mixedOrders = true) (hto : tmpsOk ops.toList = true) (K : Cf → Option R)
    (h : runOps Γ C Z true ops.toList (fun fp c => if fpOk (befores ops.toList []) fp then K c else none) 0 ops.toList [] c = some z) (hs : Sta nt rom ρ c a w)
    (hK : ∀ c' a' w' rom' ρ', K c' = some z → Post nt (ops.toList.filterMap (·.dst)) rom ρ c a w rom' ρ' c' a' w' → Q .normal a' w') : (Code.region id ops true).wp P Q a w := by
  obtain ⟨rs, c', htrc, hmap, hk⟩ := runOps_trc _ _ _ _ _ h
  split at hk <;> try (cases hk; done)
  rename_i hfp
  obtain ⟨h1, h2, ⟨h3, h4, h5⟩, h6, h7⟩ := htrc.at hs.len
  unfold tmpsOk at hto
  simp only [Bool.and_eq_true] at hto
  obtain ⟨hed, htp⟩ := hto
  have X : Ctx Γ C Z nt ops.toList rs c c' := ⟨hmap, h1, h2, hs.len, hed, fun i j r s hi hj hij => by
      have hjl : j < ops.toList.length := by
        rw [← hmap]; simpa using (List.getElem?_eq_some_iff.1 hj).1
      have := allBelow_spec htp i j hij hjl
      have e1 : ops.toList[i]? = some r.o := by rw [← hmap, List.getElem?_map, hi]; rfl
      have e2 : ops.toList[j]? = some s.o := by rw [← hmap, List.getElem?_map, hj]; rfl
      rw [e1, e2] at this
      simp only [Bool.or_eq_true, Bool.not_eq_true'] at this
      exact this,
    fun i j r s x y hi hj hij hx hy => by
      have := (fpOk_spec _ rs 0 [] hfp j s y hj hy).2 i r x hij hi hx
      simpa using this⟩
  refine wp_region_any hm ?_
  have e0 : (fun j => (Array.replicate ops.size false).getD j false) = fun _ => false := by
    funext j
    by_cases hj : j < ops.size <;> simp [hj]
  have f0 : ∀ {K V : Type} (fs : List (K → Option V)) (h : K → V), foldS (fun _ => false) fs h = h := fun fs h => by
    funext k
    exact foldS_none _ _ _ _ fun _ _ _ h => by cases h
  have eH : HS rs c (fun _ => false) = hget c.H := f0 _ _
  have eL : LS rs c (fun _ => false) = hlink c.H := f0 _ _
  have hcnt : ∀ n, cnt (fun _ => false) n = n := by
    intro n
    induction n with
    | zero => rfl
    | succ n ih => simp [cnt, ih]
  refine inv_any (as := ops.toList.filterMap (·.dst)) (rom := rom) (ρ := ρ) (a := a) (w := w) hΓ hC X ?_ ?_ ops.size _ a _ rom ρ (by simp) ?_ ?_ ?_
  · intro i r hr t ht
    have := X.op hr
    exact List.mem_filterMap.2 ⟨r.o, List.mem_of_getElem? this, ht⟩
  · intro a' w' rom' ρ' I
    refine hK c' a' w' rom' ρ' hk ⟨⟨?_, ?_, ?_, ?_, I.df, I.nt⟩, ?_, h6, I.tm⟩
    · refine TRel.of_get (by rw [h7, I.nt]) fun t => ?_
      have := I.t.get t
      rw [TS_get hs.len] at this
      rw [h3]; exact this
    · have : hget c'.H = HS rs c (fun _ => true) := funext h4
      rw [this]; exact I.rel
    · have e1 : hget c'.H = HS rs c (fun _ => true) := funext h4
      have e2 : hlink c'.H = LS rs c (fun _ => true) := funext h5
      rw [e1, e2]; exact I.lnk
    · intro id hid
      refine I.dom id (Nat.le_trans h6.len hid) fun j r hj _ => ?_
      obtain ⟨_, _, _, h8, _⟩ := h1 j r hj
      simp only [Rec.newAt, Bool.and_eq_false_iff, decide_eq_false_iff_not]
      omega
    · have : hget c'.H = HS rs c (fun _ => true) := funext h4
      rw [this]; exact I.tr
  · exact ⟨fun j o _ hj => by
      have : (Array.replicate ops.size false).getD j false = false := congrFun e0 j
      rw [this] at hj; cases hj⟩
  · rw [e0, hcnt]; exact Nat.le_refl _
  · rw [e0]
    refine ⟨?_, by rw [eH]; exact hs.rel.drawn, by rw [eH, eL]; exact hs.lnk, by rw [eH]; exact Tr.drawn, fun id h1 _ => hs.dom id h1, hs.df, hs.nt, fun _ _ => rfl⟩
    refine TRel.of_get (by rw [TS_len, hs.nt]) fun t => ?_
    rw [TS_get hs.len, f0]
    exact hs.t.get t

end
end Go.Rf
