/- A layer over the calls (plain data, own blocks, code, contracts) and plain laws about what the functions compute (part 0). -/
import Derived.Calls
import Derived.KernelRfl
import Derived.Deep.MidRow
import Derived.ChangeKeysEq
import Derived.Deep.Quiet
import Derived.Laws.StructEq
import GoSem.ClaimChange
import Derived.DataReads
import Derived.Carry
import Derived.ProofKit
import Derived.OpenShut
import Derived.JoinedCond
set_option linter.unusedVariables false
set_option linter.unusedSimpArgs false
namespace Go.AM
/-- Pure data: what an immutable cell holds. -/
inductive D where
  | int (k : IntKind) (n : Int)
  | bool (b : Bool)
  | str (l : List UInt8)
  | sl (sz : Nat) (rows : List (List D))
  | ip (cs : List D)
  | fn (f : Fn) (cs : List D)
  | nilp
  deriving Inhabited
/-- What a slot, or a cell of an own block, holds. Own blocks are named by numbers. -/
inductive AV where
  | d (x : D)
  | zs (sz : Nat)
  | ptr (e o : Nat)
  | rptr (e sz i o : Nat)
  | osl (e sz s len : Nat)
  | oslc (e sz s len cap : Nat)
  | agg (cs : List AV)
  | tup (cs : List AV)
  | fn (f : Fn) (cs : List AV)
  | bfn (f : Nat) (cs : List AV)
  | raw (v : Value)
  | dead
  deriving Inhabited
/-- The content of an own block. -/
inductive OB where
  | box (cells : List AV)
  | rows (sz : Nat) (rs : List (List D))
  | deep (sz : Nat) (rs : List (List D)) (hs : List (Nat × Nat × Nat))
  | junk
  deriving Inhabited
def get {α : Type} : List (Nat × α) → Nat → Option α
  | [], _ => none
  | (k, x) :: r, j => bif Nat.beq k j then some x else get r j
theorem get_cons_self {α : Type} (k : Nat) (x : α) (r : List (Nat × α)) : get ((k, x) :: r) k = some x := by
  simp [get]
theorem beq_ne {k j : Nat} (h : k ≠ j) : Nat.beq k j = false := by
  cases hb : Nat.beq k j with
  | false => rfl
  | true => exact absurd (Nat.eq_of_beq_eq_true hb) h
theorem get_cons_ne {α : Type} {k j : Nat} (x : α) (r : List (Nat × α)) (h : k ≠ j) : get ((k, x) :: r) j = get r j := by
  rw [get, beq_ne h]; rfl
theorem get_cons {α : Type} (k j : Nat) (x : α) (r : List (Nat × α)) : get ((k, x) :: r) j = if k = j then some x else get r j := by
  by_cases h : k = j
  · subst h; simp [get]
  · rw [get_cons_ne x r h, if_neg h]
section real
variable (w : World) (ok : Nat → Prop)
mutual
/-- The value 'v' realises the datum in the world 'w', its memory in blocks that are 'ok'. -/
def DR : D → Value → Prop
  | .int k n, v => v = .int k n
  | .bool b, v => v = .bool b
  | .str l, v => v = .string ⟨l.toArray⟩
  | .sl sz rows, v => ∃ a cap, v = .slice a rows.length cap ∧ rows.length ≤ cap ∧
      (rows = [] ∨ ∃ b o, a = some ⟨b, o, none⟩ ∧ ok b ∧ b < w.heap.size ∧ DRows sz rows b o)
  | .ip cs, v => ∃ b o, v = .pointer (some ⟨b, o, none⟩) ∧ (cs = [] ∨ (ok b ∧ DRow cs b o))
  | .fn f cs, v => ∃ vs : Array Value, v = .func f #[] vs ∧ DL cs vs.toList
  | .nilp, v => v = .pointer none
def DRows (sz : Nat) : List (List D) → Nat → Nat → Prop
  | [], _, _ => True
  | r :: rs, b, o => r.length = sz ∧ DRow r b o ∧ DRows sz rs b (o + sz)
def DRow : List D → Nat → Nat → Prop
  | [], _, _ => True
  | x :: xs, b, o => (∃ v, w.cell? ⟨b, o, none⟩ = some v ∧ DR x v) ∧ DRow xs b (o + 1)
def DL : List D → List Value → Prop
  | [], vs => vs = []
  | x :: xs, vs => ∃ v r, vs = v :: r ∧ DR x v ∧ DL xs r
end
end real
/-- What was ok reads on. -/
structure Keep (ok ok' : Nat → Prop) (w w' : World) : Prop where
  size : w.heap.size ≤ w'.heap.size
  same : ∀ b, ok b → b < w.heap.size → w'.heap[b]? = w.heap[b]?
  ok : ∀ b, ok b → b < w.heap.size → ok' b
theorem cell_lt {w : World} {a : Addr} {v : Value} (h : w.cell? a = some v) : a.block < w.heap.size := by
  unfold World.cell? at h
  rcases Nat.lt_or_ge a.block w.heap.size with h1 | h1
  · exact h1
  · rw [Array.getElem?_eq_none h1] at h; cases h
theorem cell_same {w w' : World} {b : Nat} (h : w'.heap[b]? = w.heap[b]?) (o : Nat) (s : Option Nat) : w'.cell? ⟨b, o, s⟩ = w.cell? ⟨b, o, s⟩ := by
  simp only [World.cell?, h]
section mono
variable {w w' : World} {ok ok' : Nat → Prop}
mutual
theorem DR.mono (K : Keep ok ok' w w') : ∀ (x : D) (v : Value), DR w ok x v → DR w' ok' x v
  | .int _ _, _, h => by simpa [DR] using h
  | .bool _, _, h => by simpa [DR] using h
  | .str _, _, h => by simpa [DR] using h
  | .nilp, _, h => by simpa [DR] using h
  | .sl sz rows, v, h => by
    rw [DR] at h ⊢
    obtain ⟨a, cap, h1, h2, h3⟩ := h
    refine ⟨a, cap, h1, h2, h3.imp id ?_⟩
    rintro ⟨b, o, h4, h5, h6, h7⟩
    exact ⟨b, o, h4, K.ok b h5 h6, Nat.lt_of_lt_of_le h6 K.size, DRows.mono K sz rows b o h5 h7⟩
  | .ip cs, v, h => by
    rw [DR] at h ⊢
    obtain ⟨b, o, h1, h2⟩ := h
    refine ⟨b, o, h1, ?_⟩
    rcases h2 with h2 | ⟨h3, h4⟩
    · exact .inl h2
    · cases hc : cs with
      | nil => exact .inl rfl
      | cons x xs =>
        rw [hc] at h4
        rw [DRow] at h4
        obtain ⟨⟨u, h5, h6⟩, h7⟩ := h4
        have hb := cell_lt h5
        refine .inr ⟨K.ok b h3 hb, ?_⟩
        rw [DRow]
        exact ⟨⟨u, by rw [cell_same (K.same b h3 hb)]; exact h5, DR.mono K x u h6⟩, DRow.mono K xs b (o + 1) h3 h7⟩
  | .fn f cs, v, h => by
    rw [DR] at h ⊢
    obtain ⟨vs, h1, h2⟩ := h
    exact ⟨vs, h1, DL.mono K cs _ h2⟩
theorem DRows.mono (K : Keep ok ok' w w') (sz : Nat) : ∀ (rows : List (List D)) (b o : Nat), ok b → DRows w ok sz rows b o → DRows w' ok' sz rows b o
  | [], _, _, _, _ => by rw [DRows]; trivial
  | r :: rs, b, o, hb, h => by
    rw [DRows] at h ⊢
    exact ⟨h.1, DRow.mono K r b o hb h.2.1, DRows.mono K sz rs b (o + sz) hb h.2.2⟩
theorem DRow.mono (K : Keep ok ok' w w') : ∀ (xs : List D) (b o : Nat), ok b → DRow w ok xs b o → DRow w' ok' xs b o
  | [], _, _, _, _ => by rw [DRow]; trivial
  | x :: xs, b, o, hb, h => by
    rw [DRow] at h ⊢
    obtain ⟨⟨u, h5, h6⟩, h7⟩ := h
    exact ⟨⟨u, by rw [cell_same (K.same b hb (cell_lt h5))]; exact h5, DR.mono K x u h6⟩, DRow.mono K xs b (o + 1) hb h7⟩
theorem DL.mono (K : Keep ok ok' w w') : ∀ (xs : List D) (vs : List Value), DL w ok xs vs → DL w' ok' xs vs
  | [], _, h => by rw [DL] at h ⊢; exact h
  | x :: xs, vs, h => by
    rw [DL] at h ⊢
    obtain ⟨v, r, h1, h2, h3⟩ := h
    exact ⟨v, r, h1, DR.mono K x v h2, DL.mono K xs r h3⟩
end
end mono
end Go.AM

namespace Go.AM
/-- Own blocks by their names, and those that are hidden behind an own block. -/
structure Names where
  nm : Nat → Option Nat
  hd : Nat → Nat → Option Nat
instance : CoeFun Names (fun _ => Nat → Option Nat) := ⟨Names.nm⟩
def XH (X : Nat → Prop) (β : Names) (b : Nat) : Prop := X b ∨ ∃ e j, β.hd e j = some b
/-- What is own, or hidden behind what is own. -/
def ownd (β : Names) (b : Nat) : Prop := (∃ e, β e = some b) ∨ ∃ e j, β.hd e j = some b
def okf (X : Nat → Prop) (β : Names) (b : Nat) : Prop := ¬ XH X β b ∧ ∀ e, β e ≠ some b
section real
variable (X : Nat → Prop) (β : Names) (w : World)
mutual
def AR : AV → Value → Prop
  | .d x, v => DR w (okf X β) x v
  | .zs _, v => ∃ a, v = .slice a 0 0
  | .ptr e o, v => ∃ b, β e = some b ∧ v = .pointer (some ⟨b, o, none⟩)
  | .rptr e sz i o, v => ∃ b, β e = some b ∧ v = .pointer (some ⟨b, i * sz + o, none⟩)
  | .osl e sz s len, v => ∃ a cap, v = .slice a len cap ∧ len ≤ cap ∧
      (cap = 0 ∨ ∃ b c ty fr, β e = some b ∧ a = some ⟨b, s * sz, none⟩ ∧ w.heap[b]? = some (.cells c ty fr) ∧ (s + cap) * sz ≤ c.size)
  | .oslc e sz s len cap, v => ∃ a, v = .slice a len cap ∧ len ≤ cap ∧
      (cap = 0 ∨ ∃ b c ty fr, β e = some b ∧ a = some ⟨b, s * sz, none⟩ ∧ w.heap[b]? = some (.cells c ty fr) ∧ (s + cap) * sz ≤ c.size)
  | .agg cs, v => ∃ vs : Array Value, v = .agg vs ∧ AL cs vs.toList
  | .tup cs, v => ∃ vs : Array Value, v = .tuple vs ∧ AL cs vs.toList
  | .fn f cs, v => ∃ vs : Array Value, v = .func f #[] vs ∧ AL cs vs.toList
  | .bfn f cs, v => ∃ vs : Array Value, v = .func (.func f) vs #[] ∧ AL cs vs.toList
  | .raw u, v => v = u
  | .dead, _ => True
def AL : List AV → List Value → Prop
  | [], vs => vs = []
  | x :: xs, vs => ∃ v r, vs = v :: r ∧ AR x v ∧ AL xs r
end
end real
mutual
/-- References to the names that 'p' tells are struck. -/
def pg (p : Nat → Bool) : AV → AV
  | .ptr e o => bif p e then .dead else .ptr e o
  | .rptr e sz i o => bif p e then .dead else .rptr e sz i o
  | .osl e sz s len => bif p e then .dead else .osl e sz s len
  | .oslc e sz s len cap => bif p e then .dead else .oslc e sz s len cap
  | .agg cs => .agg (pgL p cs)
  | .tup cs => .tup (pgL p cs)
  | .fn f cs => .fn f (pgL p cs)
  | .bfn f cs => .bfn f (pgL p cs)
  | .d x => .d x
  | .zs sz => .zs sz
  | .raw v => .raw v
  | .dead => .dead
def pgL (p : Nat → Bool) : List AV → List AV
  | [] => []
  | x :: xs => pg p x :: pgL p xs
end
def pgO (p : Nat → Bool) : OB → OB
  | .box cs => .box (pgL p cs)
  | .rows sz rs => .rows sz rs
  | .deep sz rs hs => bif hs.any (fun h => p h.2.2) then .junk else .deep sz rs hs
  | .junk => .junk
def pgS (p : Nat → Bool) : List (Nat × AV) → List (Nat × AV)
  | [] => []
  | (t, x) :: r => (t, pg p x) :: pgS p r
def pgOs (p : Nat → Bool) : List (Nat × OB) → List (Nat × OB)
  | [] => []
  | (t, x) :: r => (t, pgO p x) :: pgOs p r
mutual
theorem pg_id (p : Nat → Bool) (hp : ∀ e, p e = false) : ∀ x, pg p x = x
  | .ptr e o => by rw [pg, hp]; rfl
  | .rptr e sz i o => by rw [pg, hp]; rfl
  | .osl e sz s len => by rw [pg, hp]; rfl
  | .oslc e sz s len cap => by rw [pg, hp]; rfl
  | .agg cs => by rw [pg, pgL_id p hp cs]
  | .tup cs => by rw [pg, pgL_id p hp cs]
  | .fn f cs => by rw [pg, pgL_id p hp cs]
  | .bfn f cs => by rw [pg, pgL_id p hp cs]
  | .d x => by rw [pg]
  | .zs _ => by rw [pg]
  | .raw v => by rw [pg]
  | .dead => by rw [pg]
theorem pgL_id (p : Nat → Bool) (hp : ∀ e, p e = false) : ∀ xs, pgL p xs = xs
  | [] => by rw [pgL]
  | x :: xs => by rw [pgL, pg_id p hp x, pgL_id p hp xs]
end
theorem pgO_id (p : Nat → Bool) (hp : ∀ e, p e = false) (x : OB) : pgO p x = x := by
  rcases x with cs | ⟨sz, rs⟩ | ⟨sz, rs, hs⟩ | _
  · simp [pgO, pgL_id p hp]
  · rfl
  · rw [pgO, show hs.any (fun h => p h.2.2) = false from List.any_eq_false.2 (fun h _ => by rw [hp]; simp)]; rfl
  · rfl
theorem get_pgS (p : Nat → Bool) : ∀ (l : List (Nat × AV)) (t : Nat), get (pgS p l) t = (get l t).map (pg p)
  | [], _ => rfl
  | (k, x) :: r, t => by
    rw [pgS, get_cons, get_cons, get_pgS p r t]
    split <;> rfl
theorem get_pgOs (p : Nat → Bool) : ∀ (l : List (Nat × OB)) (t : Nat), get (pgOs p l) t = (get l t).map (pgO p)
  | [], _ => rfl
  | (k, x) :: r, t => by
    rw [pgOs, get_cons, get_cons, get_pgOs p r t]
    split <;> rfl
/-- From (β, w) to (β', w'): what is not own reads on; the names that 'p' leaves stay at their blocks, whose sizes stay. -/
structure Tr (X X' : Nat → Prop) (p : Nat → Bool) (β β' : Names) (w w' : World) : Prop where
  keep : Keep (okf X β) (okf X' β') w w'
  name : ∀ e b, p e = false → β e = some b → β' e = some b
  bsize : ∀ e b c ty fr, p e = false → β e = some b → w.heap[b]? = some (.cells c ty fr) →
    ∃ c' ty' fr', w'.heap[b]? = some (.cells c' ty' fr') ∧ c'.size = c.size
section tr
variable {X X' : Nat → Prop} {p : Nat → Bool} {β β' : Names} {w w' : World}
mutual
theorem AR.pg (T : Tr X X' p β β' w w') : ∀ (x : AV) (v : Value), AR X β w x v → AR X' β' w' (pg p x) v
  | .ptr e o, v, h => by
    rw [AM.pg]
    cases hp : p e with
    | true => rw [cond_true, AR]; trivial
    | false =>
      rw [cond_false]
      rw [AR] at h ⊢
      obtain ⟨b, h1, h2⟩ := h
      exact ⟨b, T.name e b hp h1, h2⟩
  | .rptr e sz i o, v, h => by
    rw [AM.pg]
    cases hp : p e with
    | true => rw [cond_true, AR]; trivial
    | false =>
      rw [cond_false]
      rw [AR] at h ⊢
      obtain ⟨b, h1, h2⟩ := h
      exact ⟨b, T.name e b hp h1, h2⟩
  | .osl e sz s len, v, h => by
    rw [AM.pg]
    cases hp : p e with
    | true => rw [cond_true, AR]; trivial
    | false =>
      rw [cond_false]
      rw [AR] at h ⊢
      obtain ⟨a, cap, h1, h2, h3⟩ := h
      refine ⟨a, cap, h1, h2, h3.imp id ?_⟩
      rintro ⟨b, c, ty, fr, h4, h5, h6, h7⟩
      obtain ⟨c', ty', fr', h8, h9⟩ := T.bsize e b c ty fr hp h4 h6
      exact ⟨b, c', ty', fr', T.name e b hp h4, h5, h8, by rw [h9]; exact h7⟩
  | .oslc e sz s len cap, v, h => by
    rw [AM.pg]
    cases hp : p e with
    | true => rw [cond_true, AR]; trivial
    | false =>
      rw [cond_false]
      rw [AR] at h ⊢
      obtain ⟨a, h1, h2, h3⟩ := h
      refine ⟨a, h1, h2, h3.imp id ?_⟩
      rintro ⟨b, c, ty, fr, h4, h5, h6, h7⟩
      obtain ⟨c', ty', fr', h8, h9⟩ := T.bsize e b c ty fr hp h4 h6
      exact ⟨b, c', ty', fr', T.name e b hp h4, h5, h8, by rw [h9]; exact h7⟩
  | .agg cs, v, h => by
    rw [AM.pg]
    rw [AR] at h ⊢
    obtain ⟨vs, h1, h2⟩ := h
    exact ⟨vs, h1, AL.pg T cs _ h2⟩
  | .tup cs, v, h => by
    rw [AM.pg]
    rw [AR] at h ⊢
    obtain ⟨vs, h1, h2⟩ := h
    exact ⟨vs, h1, AL.pg T cs _ h2⟩
  | .fn f cs, v, h => by
    rw [AM.pg]
    rw [AR] at h ⊢
    obtain ⟨vs, h1, h2⟩ := h
    exact ⟨vs, h1, AL.pg T cs _ h2⟩
  | .bfn f cs, v, h => by
    rw [AM.pg]
    rw [AR] at h ⊢
    obtain ⟨vs, h1, h2⟩ := h
    exact ⟨vs, h1, AL.pg T cs _ h2⟩
  | .d x, v, h => by
    rw [AM.pg]
    rw [AR] at h ⊢
    exact DR.mono T.keep x v h
  | .zs _, v, h => by rw [AM.pg]; rw [AR] at h ⊢; exact h
  | .raw u, v, h => by rw [AM.pg]; rw [AR] at h ⊢; exact h
  | .dead, v, h => by rw [AM.pg, AR]; trivial
theorem AL.pg (T : Tr X X' p β β' w w') : ∀ (xs : List AV) (vs : List Value), AL X β w xs vs → AL X' β' w' (pgL p xs) vs
  | [], vs, h => by rw [pgL]; rw [AL] at h ⊢; exact h
  | x :: xs, vs, h => by
    rw [pgL]
    rw [AL] at h ⊢
    obtain ⟨v, r, h1, h2, h3⟩ := h
    exact ⟨v, r, h1, AR.pg T x v h2, AL.pg T xs r h3⟩
end
end tr
theorem AR.tr {X X' : Nat → Prop} {β β' : Names} {w w' : World} (T : Tr X X' (fun _ => false) β β' w w') {x : AV} {v : Value} (h : AR X β w x v) : AR X' β' w' x v := by
  have := AR.pg T x v h
  rwa [pg_id _ (fun _ => rfl)] at this
theorem AL.tr {X X' : Nat → Prop} {β β' : Names} {w w' : World} (T : Tr X X' (fun _ => false) β β' w w') {x : List AV} {v : List Value} (h : AL X β w x v) : AL X' β' w' x v := by
  have := AL.pg T x v h
  rwa [pgL_id _ (fun _ => rfl)] at this
/-- Nothing of the block's cells is frozen. -/
def thaw (fr : Nat × Nat) (n : Nat) : Prop := ∀ o, o < n → ¬ (fr.1 ≤ o ∧ o < fr.2)
/-- .. and, but for single cells, none ends there. -/
def thawS (sz : Nat) (fr : Nat × Nat) (n : Nat) : Prop := thaw fr n ∧ (sz ≠ 1 → ¬ (fr.1 ≤ n ∧ n < fr.2))
/-- The cells of a row entry: row i, cell j. -/
def RowsR (X : Nat → Prop) (β : Names) (w : World) (sz : Nat) (rs : List (List D)) (c : Array Value) : Prop :=
  ∀ i r, rs[i]? = some r → r.length = sz ∧ ∀ j x, r[j]? = some x → ∃ v, c[i * sz + j]? = some v ∧ DR w (okf X β) x v
/-- The cells of flat rows. -/
def RowsF (w : World) (sz : Nat) (rs : List (List D)) (c : Array Value) : Prop :=
  ∀ i r, rs[i]? = some r → r.length = sz ∧ ∀ j x, r[j]? = some x → ∃ v, c[i * sz + j]? = some v ∧ DR w (fun _ => False) x v
/-- A cell of a row that has what is behind it for itself: flat, or a slice of flat rows in a hidden block, or (where 'n' tells a name) a slice that is opened under that name. -/
def CellD (β : Names) (w : World) (e : Nat) : Option Nat → D → Value → Prop
  | none, .sl n xs, v => ∃ a cap, v = .slice a xs.length cap ∧ xs.length ≤ cap ∧ (cap = 0 ∨ ∃ j b c ty fr, β.hd e j = some b ∧ a = some ⟨b, 0, none⟩ ∧ w.heap[b]? = some (.cells c ty fr) ∧ thawS n fr c.size ∧ cap * n ≤ c.size ∧ RowsF w n xs c)
  | none, .nilp, _ => True
  | none, x, v => DR w (fun _ => False) x v
  | some k, .sl n xs, v => ∃ a cap, v = .slice a xs.length cap ∧ xs.length ≤ cap ∧ (cap = 0 ∨ ∃ b c ty fr, β k = some b ∧ a = some ⟨b, 0, none⟩ ∧ w.heap[b]? = some (.cells c ty fr) ∧ cap * n ≤ c.size)
  | some _, _, _ => False
/-- The name under which the cell is opened. -/
def hole (hs : List (Nat × Nat × Nat)) (i j : Nat) : Option Nat := (hs.find? (fun h => decide (h.1 = i ∧ h.2.1 = j))).map (·.2.2)
theorem hole_some {hs : List (Nat × Nat × Nat)} {i j k : Nat} (h : hole hs i j = some k) : (i, j, k) ∈ hs := by
  unfold hole at h
  rw [Option.map_eq_some_iff] at h
  obtain ⟨⟨a, b, c⟩, h1, h2⟩ := h
  have h3 := List.find?_some h1
  have h4 := List.mem_of_find?_eq_some h1
  simp only [decide_eq_true_eq] at h3
  obtain ⟨rfl, rfl⟩ := h3
  simp only at h2
  subst h2
  exact h4
def RowsD (β : Names) (w : World) (e sz : Nat) (rs : List (List D)) (hs : List (Nat × Nat × Nat)) (c : Array Value) : Prop :=
  ∀ i r, rs[i]? = some r → r.length = sz ∧ ∀ j x, r[j]? = some x → ∃ v, c[i * sz + j]? = some v ∧ CellD β w e (hole hs i j) x v
def cellAt (rs : List (List D)) (i j : Nat) : Option D := match rs[i]? with | some r => r[j]? | none => none
/-- No two cells lead to the same block. -/
def Apart (sz : Nat) (rs : List (List D)) (c : Array Value) : Prop :=
  ∀ i j i' j' n xs n' xs', cellAt rs i j = some (.sl n xs) → cellAt rs i' j' = some (.sl n' xs') → (i, j) ≠ (i', j') →
    ∀ a l k a' l' k', c[i * sz + j]? = some (.slice (some a) l k) → c[i' * sz + j']? = some (.slice (some a') l' k') → k ≠ 0 → k' ≠ 0 → a.block ≠ a'.block
def OBR (X : Nat → Prop) (β : Names) (w : World) : OB → Option Nat → Nat → Prop
  | .box cells, some b, _ => ∃ c ty fr, w.heap[b]? = some (.cells c ty fr) ∧ thaw fr c.size ∧ AL X β w cells c.toList
  | .rows sz rs, some b, _ => ∃ c ty fr, w.heap[b]? = some (.cells c ty fr) ∧ thawS sz fr c.size ∧ rs.length * sz ≤ c.size ∧ RowsR X β w sz rs c
  | .rows _ rs, none, _ => rs = []
  | .box _, none, _ => False
  | .deep sz rs hs, some b, e => ∃ c ty fr, w.heap[b]? = some (.cells c ty fr) ∧ thawS sz fr c.size ∧ rs.length * sz ≤ c.size ∧ RowsD β w e sz rs hs c ∧ Apart sz rs c
  | .deep _ rs hs, none, _ => rs = [] ∧ hs = []
  | .junk, some b, _ => ∃ c ty fr, w.heap[b]? = some (.cells c ty fr) ∧ thaw fr c.size
  | .junk, none, _ => True
theorem RowsR.mono {X X' : Nat → Prop} {β β' : Names} {w w' : World} (K : Keep (okf X β) (okf X' β') w w') {sz : Nat} {rs : List (List D)} {c : Array Value}
    (h : RowsR X β w sz rs c) : RowsR X' β' w' sz rs c := by
  intro i r hi
  obtain ⟨h1, h2⟩ := h i r hi
  refine ⟨h1, fun j x hj => ?_⟩
  obtain ⟨v, h3, h4⟩ := h2 j x hj
  exact ⟨v, h3, DR.mono K x v h4⟩
theorem RowsF.same {w w' : World} {sz : Nat} {rs : List (List D)} {c : Array Value} (hs : w.heap.size ≤ w'.heap.size) (h : RowsF w sz rs c) : RowsF w' sz rs c := by
  intro i r hi
  obtain ⟨h1, h2⟩ := h i r hi
  refine ⟨h1, fun j x hj => ?_⟩
  obtain ⟨v, h3, h4⟩ := h2 j x hj
  exact ⟨v, h3, DR.mono ⟨hs, fun _ h _ => h.elim, fun _ h _ => h⟩ x v h4⟩
theorem CellD.pg {β β' : Names} {w w' : World} {e : Nat} (hs : w.heap.size ≤ w'.heap.size) (hh : ∀ j k, β.hd e j = some k → β'.hd e j = some k ∧ w'.heap[k]? = w.heap[k]?) {n : Option Nat}
    (hn : ∀ k b, n = some k → β k = some b → β' k = some b) (hbs : ∀ k b c ty fr, n = some k → β k = some b → w.heap[b]? = some (.cells c ty fr) → ∃ c' ty' fr', w'.heap[b]? = some (.cells c' ty' fr') ∧ c'.size = c.size)
    {x : D} {v : Value} (h : CellD β w e n x v) : CellD β' w' e n x v := by
  have flat : ∀ {x : D} {v : Value}, DR w (fun _ => False) x v → DR w' (fun _ => False) x v := fun {x v} h => DR.mono ⟨hs, fun _ h _ => h.elim, fun _ h _ => h⟩ x v h
  cases n with
  | none =>
    cases x with
    | sl m xs =>
      obtain ⟨a, cap, h1, h2, h3⟩ := h
      refine ⟨a, cap, h1, h2, h3.imp id ?_⟩
      rintro ⟨j, b, c, ty, fr, q1, q2, q3, q4, q5, q6⟩
      obtain ⟨p1, p2⟩ := hh j b q1
      exact ⟨j, b, c, ty, fr, p1, q2, by rw [p2]; exact q3, q4, q5, q6.same hs⟩
    | int k n => exact flat h
    | bool b => exact flat h
    | str l => exact flat h
    | ip cs => exact flat h
    | fn f cs => exact flat h
    | nilp => trivial
  | some k =>
    cases x with
    | sl m xs =>
      obtain ⟨a, cap, h1, h2, h3⟩ := h
      refine ⟨a, cap, h1, h2, h3.imp id ?_⟩
      rintro ⟨b, c, ty, fr, q1, q2, q3, q4⟩
      obtain ⟨c', ty', fr', p1, p2⟩ := hbs k b c ty fr rfl q1 q3
      exact ⟨b, c', ty', fr', hn k b rfl q1, q2, p1, by rw [p2]; exact q4⟩
    | int _ _ => exact h
    | bool _ => exact h
    | str _ => exact h
    | ip _ => exact h
    | fn _ _ => exact h
    | nilp => exact h
theorem OBR.pg {X X' : Nat → Prop} {p : Nat → Bool} {β β' : Names} {w w' : World} (T : Tr X X' p β β' w w') {ob : OB} {b : Option Nat} {e : Nat}
    (hb : ∀ k, b = some k → w'.heap[k]? = w.heap[k]?) (hh : ∀ j k, β.hd e j = some k → β'.hd e j = some k ∧ w'.heap[k]? = w.heap[k]?) (h : OBR X β w ob b e) : OBR X' β' w' (pgO p ob) b e := by
  cases ob with
  | box cells =>
    cases b with
    | none => exact h.elim
    | some k =>
      obtain ⟨c, ty, fr, h1, h2, h3⟩ := h
      exact ⟨c, ty, fr, by rw [hb k rfl]; exact h1, h2, AL.pg T _ _ h3⟩
  | rows sz rs =>
    cases b with
    | none => exact h
    | some k =>
      obtain ⟨c, ty, fr, h1, h2, h3, h4⟩ := h
      exact ⟨c, ty, fr, by rw [hb k rfl]; exact h1, h2, h3, h4.mono T.keep⟩
  | junk =>
    cases b with
    | none => trivial
    | some k =>
      obtain ⟨c, ty, fr, h1, h2⟩ := h
      exact ⟨c, ty, fr, by rw [hb k rfl]; exact h1, h2⟩
  | deep sz rs hs =>
    rw [AM.pgO]
    cases hp : hs.any (fun h => p h.2.2) with
    | true =>
      rw [cond_true]
      cases b with
      | none => trivial
      | some k =>
        obtain ⟨c, ty, fr, h1, h2, _⟩ := h
        exact ⟨c, ty, fr, by rw [hb k rfl]; exact h1, h2.1⟩
    | false =>
      rw [cond_false]
      have hp : ∀ i j k, (i, j, k) ∈ hs → p k = false := fun i j k hk => by
        have := List.any_eq_false.1 hp _ hk
        simpa using this
      cases b with
      | none => exact h
      | some k =>
        obtain ⟨c, ty, fr, h1, h2, h3, h4, h5⟩ := h
        refine ⟨c, ty, fr, by rw [hb k rfl]; exact h1, h2, h3, fun i r hi => ?_, h5⟩
        obtain ⟨q1, q2⟩ := h4 i r hi
        refine ⟨q1, fun j x hj => ?_⟩
        obtain ⟨v, q3, q4⟩ := q2 j x hj
        exact ⟨v, q3, q4.pg T.keep.size hh (fun k b hk => T.name k b (hp _ _ _ (hole_some hk))) (fun k b c ty fr hk => T.bsize k b c ty fr (hp _ _ _ (hole_some hk)))⟩
/-- What a name owns: its block, and what is hidden behind it. -/
def own1 (β : Names) (e b : Nat) : Prop := β e = some b ∨ ∃ j, β.hd e j = some b
theorem own1_ownd {β : Names} {e b : Nat} (h : own1 β e b) : ownd β b := h.elim (fun h => .inl ⟨e, h⟩) (fun ⟨j, h⟩ => .inr ⟨e, j, h⟩)
theorem ownd_own1 {β : Names} {b : Nat} (h : ownd β b) : ∃ e, own1 β e b := h.elim (fun ⟨e, h⟩ => ⟨e, .inl h⟩) (fun ⟨e, j, h⟩ => ⟨e, .inr ⟨j, h⟩⟩)
/-- The own heap is realised. -/
structure HR (X : Nat → Prop) (β : Names) (own : List (Nat × OB)) (w : World) : Prop where
  inj : ∀ e e' b, β e = some b → β e' = some b → e = e'
  lt : ∀ e b, β e = some b → b < w.heap.size
  notX : ∀ e b, β e = some b → ¬ XH X β b
  hlt : ∀ e j b, β.hd e j = some b → b < w.heap.size
  hinj : ∀ e j e' j' b, β.hd e j = some b → β.hd e' j' = some b → e = e'
  hX : ∀ e j b, β.hd e j = some b → ¬ X b
  own : ∀ e ob, get own e = some ob → OBR X β w ob (β e) e
theorem HR.one {X : Nat → Prop} {β : Names} {own : List (Nat × OB)} {w : World} (H : HR X β own w) {n n' b : Nat} (h : own1 β n b) (h' : own1 β n' b) : n = n' := by
  rcases h with h | ⟨j, h⟩ <;> rcases h' with h' | ⟨j', h'⟩
  · exact H.inj n n' b h h'
  · exact absurd (.inr ⟨n', j', h'⟩) (H.notX n b h)
  · exact absurd (.inr ⟨n, j, h⟩) (H.notX n' b h')
  · exact H.hinj n j n' j' b h h'
theorem HR.lt1 {X : Nat → Prop} {β : Names} {own : List (Nat × OB)} {w : World} (H : HR X β own w) {n b : Nat} (h : own1 β n b) : b < w.heap.size := by
  rcases h with h | ⟨j, h⟩
  · exact H.lt n b h
  · exact H.hlt n j b h
theorem okf_own1 {X : Nat → Prop} {β : Names} {b : Nat} (h : okf X β b) (e : Nat) : ¬ own1 β e b := by
  rintro (q | ⟨j, q⟩)
  · exact h.2 e q
  · exact h.1 (.inr ⟨e, j, q⟩)
/-- What has become of the world since 'w0': nothing but what was own, and what is new. -/
structure Fr (β0 : Names) (w0 w : World) : Prop where
  os : w.os = w0.os
  tape : w.tape = w0.tape
  output : w.output = w0.output
  size : w0.heap.size ≤ w.heap.size
  same : ∀ b, b < w0.heap.size → ¬ ownd β0 b → w.heap[b]? = w0.heap[b]?
  bsize : ∀ (b : Nat) (c : Array Value) (ty : TypeId) (fr : Nat × Nat), w0.heap[b]? = some (Obj.cells c ty fr) → ∃ (c' : Array Value) (ty' : TypeId) (fr' : Nat × Nat), w.heap[b]? = some (Obj.cells c' ty' fr') ∧ c'.size = c.size
/-- What start-up code lays in variables of packages. -/
def gtab : List (String × (Array Value → Prop)) := [
  ("internal/strconv.uint64pow10", fun cs => cs = #[.int .u64 1, .int .u64 10, .int .u64 100, .int .u64 1000, .int .u64 10000, .int .u64 100000, .int .u64 1000000, .int .u64 10000000, .int .u64 100000000, .int .u64 1000000000, .int .u64 10000000000, .int .u64 100000000000, .int .u64 1000000000000, .int .u64 10000000000000, .int .u64 100000000000000, .int .u64 1000000000000000, .int .u64 10000000000000000, .int .u64 100000000000000000, .int .u64 1000000000000000000, .int .u64 10000000000000000000]),
  ("loop.example/g00332/impl.columnWords", fun cs => cs = #[.string ⟨#[105, 100]⟩, .string ⟨#[110]⟩, .string ⟨#[110, 97, 109, 101]⟩]),
  ("loop.example/g00332/impl.binarySigns", fun cs => cs = #[.string ⟨#[43]⟩, .string ⟨#[45]⟩, .string ⟨#[42]⟩, .string ⟨#[47]⟩, .string ⟨#[61]⟩, .string ⟨#[60]⟩, .string ⟨#[97, 110, 100]⟩, .string ⟨#[111, 114]⟩]),
  ("strconv.ErrSyntax", fun cs => ∃ v, cs = #[v] ∧ (v = .nilIface ∨ ∃ te pe, v = .iface te pe))]
/-- The variables of packages read as laid, and are nobody's. -/
def GOK (P : Program) (X : Nat → Prop) (β : Names) (w : World) : Prop :=
  ∀ p ∈ gtab, ∀ g, P.globalNamed p.1 = some g → ¬ X g ∧ ¬ ownd β g ∧ ∃ cs ty fr, p.2 cs ∧ w.heap[g]? = some (.cells cs ty fr)
theorem GOK.lt {P : Program} {X : Nat → Prop} {β : Names} {w : World} {g : Nat} {c : Array Value} {ty : TypeId} {fr : Nat × Nat} (h : w.heap[g]? = some (.cells c ty fr)) : g < w.heap.size := (Array.getElem?_eq_some_iff.1 h).1
/-- What is fixed while a function's body runs. -/
structure Cx where
  P : Program
  n : Nat
  w0 : World
  X : Nat → Prop
  β0 : Names
  mv : Nat → Bool
  hg : GOK P X β0 w0
structure St where
  sl : List (Nat × AV)
  own : List (Nat × OB)
structure SatB (C : Cx) (st : St) (a : Act) (w : World) (β : Names) : Prop where
  tsize : a.tmps.size = C.n
  df : a.defers = []
  slots : ∀ t x, get st.sl t = some x → AR C.X β w x (a.tmps.getD t undef)
  hr : HR C.X β st.own w
  mine : ∀ b, ownd β b → C.w0.heap.size ≤ b ∨ ownd C.β0 b
  stay : ∀ e, 1000 ≤ e → C.mv e = false → β e = C.β0 e
  fr : Fr C.β0 C.w0 w
  xlt : ∀ b, C.X b → b < C.w0.heap.size
theorem SatB.gok {C : Cx} {st : St} {a : Act} {w : World} {β : Names} (S : SatB C st a w β) : GOK C.P C.X β w := by
  intro p hp g hg
  obtain ⟨h1, h2, cs, ty, fr, h4, h3⟩ := C.hg p hp g hg
  have hlt := GOK.lt (P := C.P) (X := C.X) (β := β) h3
  refine ⟨h1, fun he => ?_, cs, ty, fr, h4, by rw [S.fr.same g hlt h2]; exact h3⟩
  rcases S.mine g he with h | h
  · omega
  · exact h2 h
theorem GOK.sub {P : Program} {X X' : Nat → Prop} {β β' : Names} {w : World} (h : GOK P X β w) (hX : ∀ b, X' b → X b ∨ ownd β b) (hb : ∀ b, ownd β' b → ownd β b) : GOK P X' β' w := by
  intro p hp g hg
  obtain ⟨h1, h2, h3⟩ := h p hp g hg
  exact ⟨fun hx => (hX g hx).elim h1 h2, fun he => h2 (hb g he), h3⟩
def Sat (C : Cx) (st : St) (a : Act) (w : World) : Prop := ∃ β, SatB C st a w β
/-- Growth that turns no block: draws. -/
structure Ext (w w' : World) : Prop where
  os : w'.os = w.os
  tape : w'.tape = w.tape
  output : w'.output = w.output
  size : w.heap.size ≤ w'.heap.size
  same : ∀ b, b < w.heap.size → w'.heap[b]? = w.heap[b]?
theorem Ext.refl (w : World) : Ext w w := ⟨rfl, rfl, rfl, Nat.le_refl _, fun _ _ => rfl⟩
theorem Ext.trans {a b c : World} (h : Ext a b) (k : Ext b c) : Ext a c :=
  ⟨k.os.trans h.os, k.tape.trans h.tape, k.output.trans h.output, Nat.le_trans h.size k.size, fun i hi => (k.same i (Nat.lt_of_lt_of_le hi h.size)).trans (h.same i hi)⟩
theorem Ext.drew (w : World) : Ext w { w with drawn := w.drawn + 1 } := ⟨rfl, rfl, rfl, Nat.le_refl _, fun _ _ => rfl⟩
theorem Ext.cell {w w' : World} (h : Ext w w') {a : Addr} {v : Value} (hc : w.cell? a = some v) : w'.cell? a = some v := by
  have hb := cell_lt hc
  obtain ⟨b, o, s⟩ := a
  rw [cell_same (h.same b hb)]; exact hc
theorem Ext.tr {X : Nat → Prop} {β : Names} {w w' : World} (h : Ext w w') (hlt : ∀ e b, β e = some b → b < w.heap.size) : Tr X X (fun _ => false) β β w w' where
  keep := ⟨h.size, fun b _ hb => h.same b hb, fun b hb _ => hb⟩
  name := fun _ _ _ hb => hb
  bsize := fun e b c ty fr _ hb hh => ⟨c, ty, fr, by rw [h.same b (hlt e b hb)]; exact hh, rfl⟩
theorem HR.ext {X : Nat → Prop} {β : Names} {own : List (Nat × OB)} {w w' : World} (H : HR X β own w) (h : Ext w w') : HR X β own w' where
  inj := H.inj
  lt := fun e b hb => Nat.lt_of_lt_of_le (H.lt e b hb) h.size
  notX := H.notX
  hlt := fun e j b hb => Nat.lt_of_lt_of_le (H.hlt e j b hb) h.size
  hinj := H.hinj
  hX := H.hX
  own := fun e ob ho => by
    have := OBR.pg (h.tr (X := X) H.lt) (fun k hk => h.same k (H.lt e k hk)) (fun j k hk => ⟨hk, h.same k (H.hlt e j k hk)⟩) (H.own e ob ho)
    rwa [pgO_id _ (fun _ => rfl)] at this
theorem Fr.ext {β0 : Names} {w0 w w' : World} (H : Fr β0 w0 w) (h : Ext w w') : Fr β0 w0 w' :=
  ⟨h.os.trans H.os, h.tape.trans H.tape, h.output.trans H.output, Nat.le_trans H.size h.size, fun b hb hn => (h.same b (Nat.lt_of_lt_of_le hb H.size)).trans (H.same b hb hn),
    fun b c ty fr hb => by
      obtain ⟨c', ty', fr', h1, h2⟩ := H.bsize b c ty fr hb
      exact ⟨c', ty', fr', by rw [h.same b (Array.getElem?_eq_some_iff.1 h1).1]; exact h1, h2⟩⟩
theorem SatB.ext {C : Cx} {st : St} {a : Act} {w w' : World} {β : Names} (S : SatB C st a w β) (h : Ext w w') : SatB C st a w' β where
  tsize := S.tsize
  df := S.df
  slots := fun t x hx => (S.slots t x hx).tr (h.tr S.hr.lt)
  hr := S.hr.ext h
  mine := S.mine
  stay := S.stay
  fr := S.fr.ext h
  xlt := S.xlt
theorem Sat.ext {C : Cx} {st : St} {a : Act} {w w' : World} (S : Sat C st a w) (h : Ext w w') : Sat C st a w' :=
  let ⟨β, S⟩ := S
  ⟨β, S.ext h⟩
theorem getD_put (a : Act) (d : Nat) (v : Value) (t : Nat) (hd : d < a.tmps.size) : (a.put (some d) v).tmps.getD t undef = if d = t then v else a.tmps.getD t undef := by
  simp only [Act.put, Array.getD_eq_getD_getElem?, Array.getElem?_setIfInBounds]
  by_cases h : d = t
  · simp only [if_pos h, if_pos hd, Option.getD_some]
  · simp only [if_neg h]
/-- A slot is written. -/
theorem SatB.put {C : Cx} {sl : List (Nat × AV)} {own : List (Nat × OB)} {a : Act} {w : World} {β : Names} (S : SatB C ⟨sl, own⟩ a w β) {d : Nat} (hd : d < C.n) {x : AV} {v : Value}
    (h : AR C.X β w x v) : SatB C ⟨(d, x) :: sl, own⟩ (a.put (some d) v) w β where
  tsize := by simp [Act.put, S.tsize]
  df := S.df
  slots := fun t y hy => by
    rw [getD_put a d v t (by rw [S.tsize]; exact hd)]
    simp only [get_cons] at hy
    split at hy
    · rename_i e; rw [if_pos e]; cases hy; exact h
    · rename_i e; rw [if_neg e]; exact S.slots t y hy
  hr := S.hr
  mine := S.mine
  stay := S.stay
  fr := S.fr
  xlt := S.xlt
end Go.AM

namespace Go.AM
/-- Constants. -/
inductive K where
  | int (k : IntKind) (n : Int)
  | bool (b : Bool)
  | str (l : List UInt8)
  | nils (sz : Nat)
  | nilp
  | nilf
  | nili
  deriving Inhabited
/-- Operands. -/
inductive XA where
  | t (n : Nat)
  | k (c : K)
  | f (n : Nat)
  | g (n : Nat)
  deriving Inhabited
def kindEq (a b : IntKind) : Bool := Nat.beq (a.ctorIdx) (b.ctorIdx)
theorem kindEq_eq {a b : IntKind} (h : kindEq a b = true) : a = b := by
  cases a <;> cases b <;> first | rfl | (exact absurd h (by decide))
def bytesEq : List UInt8 → List UInt8 → Bool
  | [], [] => true
  | a :: r, b :: s => Nat.beq a.toNat b.toNat && bytesEq r s
  | _, _ => false
theorem bytesEq_eq : ∀ {a b : List UInt8}, bytesEq a b = true → a = b
  | [], [], _ => rfl
  | a :: r, b :: s, h => by
    simp only [bytesEq, Bool.and_eq_true] at h
    rw [bytesEq_eq h.2, UInt8.toNat_inj.1 (Nat.eq_of_beq_eq_true h.1)]
  | [], _ :: _, h => by simp [bytesEq] at h
  | _ :: _, [], h => by simp [bytesEq] at h
def K.av : K → AV
  | .int k n => .d (.int k n)
  | .bool b => .d (.bool b)
  | .str l => .d (.str l)
  | .nils sz => .zs sz
  | .nilp => .d .nilp
  | .nilf => .raw .nilFunc
  | .nili => .raw .nilIface
def fitK : Value → K → Bool
  | .int k n, .int k' n' => kindEq k k' && decide (n = n')
  | .bool b, .bool b' => b == b'
  | .string s, .str l => bytesEq s.data.toList l
  | .slice none 0 0, .nils _ => true
  | .pointer none, .nilp => true
  | .nilFunc, .nilf => true
  | .nilIface, .nili => true
  | _, _ => false
def fitA : Operand → XA → Bool
  | .tmp a, .t b => Nat.beq a b
  | .const v, .k c => fitK v c
  | .func a, .f b => Nat.beq a b
  | .global a, .g b => Nat.beq a b
  | _, _ => false
def evA (sl : List (Nat × AV)) : XA → Option AV
  | .t n => get sl n
  | .k c => some c.av
  | .f n => some (.fn (.func n) [])
  | .g _ => none
theorem AR_of_fitK {X : Nat → Prop} {β : Names} {w : World} {v : Value} {c : K} (h : fitK v c = true) : AR X β w c.av v := by
  unfold fitK at h
  split at h
  · simp only [Bool.and_eq_true, decide_eq_true_eq] at h
    rw [K.av, AR, DR, kindEq_eq h.1, h.2]
  · rw [K.av, AR, DR]; simpa using h
  · rw [K.av, AR, DR, ← bytesEq_eq h]
  · rw [K.av, AR]; exact ⟨none, rfl⟩
  · rw [K.av, AR, DR]
  · rw [K.av, AR]
  · rw [K.av, AR]
  · cases h
theorem AR_of_fitA {C : Cx} {st : St} {a : Act} {w : World} {β : Names} (S : SatB C st a w β) {o : Operand} {x : XA} {v : AV} (h : fitA o x = true) (hv : evA st.sl x = some v) :
    AR C.X β w v (a.eval o) := by
  unfold fitA at h
  split at h
  · rw [← Nat.eq_of_beq_eq_true h] at hv
    exact S.slots _ _ hv
  · simp only [evA, Option.some.injEq] at hv; subst hv
    exact AR_of_fitK h
  · rw [← Nat.eq_of_beq_eq_true h] at hv
    simp only [evA, Option.some.injEq] at hv; subst hv
    rw [AR]
    exact ⟨#[], rfl, by simp [AL]⟩
  · simp [evA] at hv
  · cases h
/-- Resolved operations. -/
inductive XOp where
  | mov (x : XA)
  | pick (c a b : XA)
  | alloc (zs : List K)
  | box (x : XA)
  | build (zs : List K) (parts : List (Nat × Nat × XA))
  | bslice (sz : Nat) (parts : List XA)
  | load1 (x : XA)
  | loadN (n : Nat) (x : XA)
  | store (n : Nat) (x y : XA)
  | nilck (x : XA)
  | bin (op : BinOp) (x y : XA)
  | eqb (neg : Bool) (x y : XA)
  | eqs (neg : Bool) (ks : List Nat) (x y : XA)
  | eqn (neg : Bool) (x : XA)
  | not (x : XA)
  | neg (x : XA)
  | conv (k : IntKind) (x : XA)
  | s2b (x : XA)
  | b2s (x : XA)
  | fadr (x : XA) (off : Nat)
  | fld1 (x : XA) (off : Nat)
  | fldN (x : XA) (off n : Nat)
  | iadr (sz : Nat) (x i : XA)
  | iadrA (sz n : Nat) (x i : XA)
  | idxS (x i : XA)
  | slcT (x : XA) (lo hi : Option XA)
  | slc (sz : Nat) (x : XA) (lo hi mx : Option XA)
  | ext (x : XA) (i : Nat)
  | lenS (x : XA)
  | lenT (x : XA)
  | lenA (n : Nat)
  | capS (x : XA)
  | app (sz bytes : Nat) (zs : List K) (x y : XA)
  | cpy (sz : Nat) (x y : XA)
  | clr (sz : Nat) (zs : List K) (x : XA)
  | mkslice (sz bytes : Nat) (zs : List K) (l c : XA)
  | mkfn (f : Nat) (caps : List XA)
  | mx (big : Bool) (x y : XA)
  | appz (sz bytes : Nat) (zs : List K) (x y : XA)
  | idxA (sz n : Nat) (x i : XA)
  | ext2 (f : Nat) (x y : XA)
  | mkbf (f : Nat) (bs : List XA)
  | eqi (neg : Bool) (x : XA)
  | slcA (sz n : Nat) (x : XA)
  | idx1 (n : Nat) (x i : XA)
  | bad
  deriving Inhabited
def fitsA : List Operand → List XA → Bool
  | [], [] => true
  | o :: os, x :: xs => fitA o x && fitsA os xs
  | _, _ => false
def fitO : Option Operand → Option XA → Bool
  | none, none => true
  | some o, some x => fitA o x
  | _, _ => false
def fitZ : List Value → List K → Bool
  | [], [] => true
  | v :: vs, c :: cs => fitK v c && fitZ vs cs
  | _, _ => false
def szIs (P : Program) (t : TypeId) (n : Nat) : Bool :=
  match P.info? t with
  | some i => Nat.beq i.size n
  | none => false
def byIs (P : Program) (t : TypeId) (n : Nat) : Bool :=
  match P.info? t with
  | some i => Nat.beq i.bytes n
  | none => false
def zeroIs (P : Program) (t : TypeId) (zs : List K) : Bool :=
  match P.info? t with
  | some i => match i.zero with
    | some v => fitZ v.cells.toList zs && Nat.beq i.size zs.length
    | none => false
  | none => false
def sliceOf (P : Program) (t : TypeId) : Option TypeId :=
  match P.underlying t with
  | some (.slice e) => some e
  | _ => none
def isStr (P : Program) (t : TypeId) : Bool :=
  match P.underlying t with
  | some .string => true
  | _ => false
/-- The type's variables are one cell, and no aggregate. -/
def isOne (P : Program) (t : TypeId) : Bool :=
  match P.underlying t with
  | some (.struct _) | some (.array _ _) => false
  | some _ => true
  | none => false
def isRow (P : Program) (t : TypeId) : Bool :=
  match P.underlying t with
  | some (.struct _) | some (.array _ _) => true
  | _ => false
/-- Field number 'f' of the struct type 's': its offset and type. -/
def fieldOf (P : Program) (s : TypeId) (f : Nat) : Option (Nat × TypeId) :=
  match P.underlying s with
  | some (.struct fs) => match fs[f]? with
    | some x => some (x.offset, x.type)
    | none => none
  | _ => none
def fitParts : List (Nat × Operand) → List (Nat × Nat × XA) → (Nat → Option (Nat × TypeId)) → Program → Bool
  | [], [], _, _ => true
  | (i, o) :: r, (off, n, x) :: s, place, P =>
    fitA o x && (match place i with | some (off', t) => Nat.beq off off' && szIs P t n | none => false) && fitParts r s place P
  | _, _, _, _ => false
def fitSeq : Nat → List (Nat × Operand) → List XA → Bool
  | _, [], [] => true
  | k, (i, o) :: r, x :: s => Nat.beq i k && fitA o x && fitSeq (k + 1) r s
  | _, _, _ => false
/-- The kinds of a flat type's cells: 0 an integer, 1 a bool, 2 a string. -/
def flatFs (P : Program) (rec : TypeId → Option (List Nat)) : List Field → Nat → Option (List Nat)
  | [], _ => some []
  | f :: fs, off => bif !(f.name == "_") && Nat.beq f.offset off then
      match rec f.type with
      | some ks => bif szIs P f.type ks.length then match flatFs P rec fs (off + ks.length) with
          | some r => some (ks ++ r)
          | none => none
        else none
      | none => none
    else none
def flatK (P : Program) : Nat → TypeId → Option (List Nat)
  | 0, _ => none
  | d + 1, t => match P.underlying t with
    | some (.int _) => some [0]
    | some .bool => some [1]
    | some .string => some [2]
    | some (.struct fs) => bif !P.stoodInHeld t then flatFs P (flatK P d) fs.toList 0 else none
    | _ => none
def natsEq : List Nat → List Nat → Bool
  | [], [] => true
  | a :: r, b :: s => Nat.beq a b && natsEq r s
  | _, _ => false
def fits (P : Program) (o : Oper) : XOp → Bool
  | .mov x => match o.op with | .move y => fitA y x | .assign y => fitA y x | _ => false
  | .pick c a b => match o.op with | .pick c' a' b' => fitA c' c && fitA a' a && fitA b' b | _ => false
  | .alloc zs => match o.op with | .alloc t => zeroIs P t zs | _ => false
  | .box x => match o.op with | .box _ y => fitA y x | _ => false
  | .build zs parts => match o.op with
    | .build t ps => zeroIs P t zs && (match P.underlying t with
      | some (.struct fs) => fs.toList.all (fun f => (P.info? f.type).isSome) && fitParts ps.toList parts (fieldOf P t) P
      | some (.array _ e) => (match P.info? e with | some i => fitParts ps.toList parts (fun k => some (k * i.size, e)) P | none => false)
      | _ => false)
    | _ => false
  | .bslice sz parts => match o.op with
    | .buildSlice t len ps => (match sliceOf P t with | some e => szIs P e sz && (match P.info? e with | some i => i.zero.isSome | none => false) | none => false) && Nat.beq len parts.length && fitSeq 0 ps.toList parts && decide (len * sz ≤ 2 ^ 24) && Nat.ble 1 sz
    | _ => false
  | .load1 x => match o.op with | .load t y => isOne P t && fitA y x | _ => false
  | .loadN n x => match o.op with | .load t y => isRow P t && szIs P t n && fitA y x | _ => false
  | .store n x y => match o.op with | .store t a b => szIs P t n && fitA a x && fitA b y | _ => false
  | .nilck x => match o.op with | .nilCheck y => fitA y x | _ => false
  | .bin op x y => match o.op with | .binOp op' _ a b _ => decide (op = op') && fitA a x && fitA b y | _ => false
  | .eqb neg x y => match o.op with
    | .binOp op' t a b _ => decide (op' = if neg then BinOp.neq else BinOp.eql) && (match P.underlying t with | some .bool => true | _ => false) && fitA a x && fitA b y
    | _ => false
  | .eqs neg ks x y => match o.op with
    | .binOp op' t a b _ => decide (op' = if neg then BinOp.neq else BinOp.eql) && isRow P t && (match flatK P 20 t with | some ks' => natsEq ks ks' | none => false) && !P.eqGuardType P.depth t && fitA a x && fitA b y
    | _ => false
  | .eqn neg x => match o.op with
    | .binOp op' t a b _ => decide (op' = if neg then BinOp.neq else BinOp.eql) && (match P.underlying t with | some (.slice _) => true | _ => false) && fitA a x && fitA b (.k (.nils 0))
    | _ => false
  | .not x => match o.op with | .unOp .not _ y => fitA y x | _ => false
  | .neg x => match o.op with | .unOp .neg _ y => fitA y x | _ => false
  | .conv k x => match o.op with
    | .convert s t y => (match P.underlying s with | some _ => true | none => false) && (match P.underlying t with | some (.int k') => kindEq k k' | _ => false) && fitA y x
    | _ => false
  | .s2b x => match o.op with
    | .convert s t y => isStr P s && (match sliceOf P t with | some e => (match P.underlying e with | some (.int .u8) => true | _ => false) | none => false) && fitA y x
    | _ => false
  | .b2s x => match o.op with
    | .convert s t y => isStr P t && (match sliceOf P s with | some e => (match P.underlying e with | some (.int .u8) => true | _ => false) | none => false) && fitA y x
    | _ => false
  | .fadr x off => match o.op with
    | .fieldAddr s y f => (match fieldOf P s f with | some (off', t) => Nat.beq off off' && (match P.info? t with | some i => !Nat.beq i.size 0 | none => false) | none => false) && fitA y x
    | _ => false
  | .fld1 x off => match o.op with
    | .field s y f => (match fieldOf P s f with | some (off', t) => Nat.beq off off' && isOne P t | none => false) && fitA y x
    | _ => false
  | .fldN x off n => match o.op with
    | .field s y f => (match fieldOf P s f with | some (off', t) => Nat.beq off off' && isRow P t && szIs P t n | none => false) && fitA y x
    | _ => false
  | .iadr sz x i => match o.op with
    | .indexAddr t y j => (match sliceOf P t with | some e => szIs P e sz | none => false) && fitA y x && fitA j i
    | _ => false
  | .iadrA sz n x i => match o.op with
    | .indexAddr t y j => (match P.underlying t with | some (.array m e) => Nat.beq m n && szIs P e sz | _ => false) && fitA y x && fitA j i
    | _ => false
  | .idxS x i => match o.op with
    | .index t y j => isStr P t && fitA y x && fitA j i
    | _ => false
  | .slcT x lo hi => match o.op with
    | .slice t y l h m => isStr P t && fitA y x && fitO l lo && fitO h hi && m.isNone
    | _ => false
  | .slc sz x lo hi mx => match o.op with
    | .slice t y l h m => (match sliceOf P t with | some e => szIs P e sz | none => false) && fitA y x && fitO l lo && fitO h hi && fitO m mx
    | _ => false
  | .ext x i => match o.op with | .extract y j => fitA y x && Nat.beq i j | _ => false
  | .lenS x => match o.op with
    | .call { callee := .builtin .len, args, argTypes } => (match args.toList, argTypes.toList with | [y], [t] => (sliceOf P t).isSome && fitA y x | _, _ => false)
    | _ => false
  | .lenT x => match o.op with
    | .call { callee := .builtin .len, args, argTypes } => (match args.toList, argTypes.toList with | [y], [t] => isStr P t && fitA y x | _, _ => false)
    | _ => false
  | .lenA n => match o.op with
    | .call { callee := .builtin .len, args, argTypes } => (match args.toList, argTypes.toList with | [_], [t] => (match P.underlying t with | some (.array m _) => Nat.beq m n | _ => false) | _, _ => false)
    | _ => false
  | .capS x => match o.op with
    | .call { callee := .builtin .cap, args, argTypes } => (match args.toList, argTypes.toList with | [y], [t] => (sliceOf P t).isSome && fitA y x | _, _ => false)
    | _ => false
  | .app sz bytes zs x y => match o.op with
    | .call { callee := .builtin .append, args, argTypes } => (match args.toList, argTypes.toList with
      | [a, b], [t, u] => (match sliceOf P t with | some e => szIs P e sz && byIs P e bytes && zeroIs P e zs && Nat.ble 1 sz && Nat.ble 1 bytes | none => false) &&
          (match P.underlying u with | some (.slice _) | some .string => true | _ => false) && fitA a x && fitA b y
      | _, _ => false)
    | _ => false
  | .cpy sz x y => match o.op with
    | .call { callee := .builtin .copy, args, argTypes } => (match args.toList, argTypes.toList with
      | [a, b], t :: _ => (match sliceOf P t with | some e => szIs P e sz | none => false) && fitA a x && fitA b y
      | _, _ => false)
    | _ => false
  | .clr sz zs x => match o.op with
    | .call { callee := .builtin .clear, args, argTypes } => (match args.toList, argTypes.toList with
      | [a], [t] => (match sliceOf P t with | some e => szIs P e sz && zeroIs P e zs | none => false) && fitA a x
      | _, _ => false)
    | _ => false
  | .mkslice sz bytes zs l c => match o.op with
    | .makeSlice t a b => (match sliceOf P t with | some e => szIs P e sz && byIs P e bytes && zeroIs P e zs && Nat.ble 1 sz && Nat.ble 1 bytes | none => false) && fitA a l && fitA b c
    | _ => false
  | .mkfn f caps => match o.op with
    | .makeFunc (.func g) first cs => Nat.beq f g && first.isEmpty && fitsA cs.toList caps
    | _ => false
  | .mx big x y => match o.op with
    | .call { callee := .builtin b, args, argTypes := _ } => (match args.toList with
      | [p, q] => (match b with | .max => big | .min => !big | _ => false) && fitA p x && fitA q y
      | _ => false)
    | _ => false
  | .appz sz bytes zs x y => match o.op with
    | .call { callee := .builtin .append, args, argTypes } => (match args.toList, argTypes.toList with
      | [a, b], [t, u] => (match sliceOf P t with | some e => szIs P e sz && byIs P e bytes && zeroIs P e zs && Nat.ble 1 sz && Nat.ble 1 bytes | none => false) &&
          (match P.underlying u with | some (.int _) => true | _ => false) && fitA a x && fitA b y
      | _, _ => false)
    | _ => false
  | .idxA sz n x i => match o.op with
    | .index t y j => (match P.underlying t with | some (.array m e) => Nat.beq m n && szIs P e sz && isRow P e | _ => false) && fitA y x && fitA j i
    | _ => false
  | .ext2 f x y => match o.op with
    | .call { callee := .value g, args, argTypes := _ } => fitA g (.f f) && (match args.toList with | [p, q] => fitA p x && fitA q y | _ => false)
    | _ => false
  | .mkbf f bs => match o.op with
    | .makeFunc (.func g) first cs => Nat.beq f g && cs.isEmpty && fitsA first.toList bs
    | _ => false
  | .eqi neg x => match o.op with
    | .binOp op' t a b _ => decide (op' = if neg then BinOp.neq else BinOp.eql) && (match P.underlying t with | some (.interface _) => true | _ => false) && fitA a x && fitA b (.k .nili)
    | _ => false
  | .slcA sz n x => match o.op with
    | .slice t y l h m => (match P.underlying t with | some (.array q e) => Nat.beq q n && szIs P e sz | _ => false) && fitA y x && l.isNone && h.isNone && m.isNone
    | _ => false
  | .idx1 n x i => match o.op with
    | .index t y j => (match P.underlying t with | some (.array m e) => Nat.beq m n && szIs P e 1 && isOne P e | _ => false) && fitA y x && fitA j i
    | _ => false
  | .bad => true
/-- The operation yields 'r', whatever the draws. -/
def QStep (C : Cx) (st : St) (x : XOp) (r : AV) : Prop :=
  ∀ o, fits C.P o x = true → ∀ a w β, SatB C st a w β → ∃ v, AR C.X β w r v ∧ ∀ w', Ext w w' → (execOp a.eval o).run C.P w' = .ok (.value v) w'
theorem q_mov {C : Cx} {st : St} {x : XA} {v : AV} (h : evA st.sl x = some v) : QStep C st (.mov x) v := by
  intro o hf a w β S
  simp only [fits] at hf
  split at hf <;> rename_i y ho
  · exact ⟨_, AR_of_fitA S hf h, fun w' _ => by simp [execOp, ho]⟩
  · exact ⟨_, AR_of_fitA S hf h, fun w' _ => by simp [execOp, ho]⟩
  · cases hf
theorem q_not {C : Cx} {st : St} {x : XA} {b : Bool} (h : evA st.sl x = some (.d (.bool b))) : QStep C st (.not x) (.d (.bool (!b))) := by
  intro o hf a w β S
  simp only [fits] at hf
  split at hf
  · rename_i t y ho
    have h1 := AR_of_fitA S hf h
    rw [AR, DR] at h1
    exact ⟨.bool (!b), by rw [AR, DR], fun w' _ => by simp [execOp, ho, h1, Op.unary]⟩
  · cases hf
def wr (k : IntKind) (n : Int) : Int := k.wrap n
/-- Arithmetic and comparisons on integers that can't panic. -/
def ibin (op : BinOp) (k : IntKind) (a b : Int) : Option D :=
  match op with
  | .add => some (.int k (wr k (a + b)))
  | .sub => some (.int k (wr k (a - b)))
  | .mul => some (.int k (wr k (a * b)))
  | .eql => some (.bool (decide (a = b)))
  | .neq => some (.bool (!decide (a = b)))
  | .lss => some (.bool (decide (a < b)))
  | .leq => some (.bool (decide (a ≤ b)))
  | .gtr => some (.bool (decide (b < a)))
  | .geq => some (.bool (decide (b ≤ a)))
  | _ => none
theorem beqd (a b : Int) : (a == b) = decide (a = b) := by
  by_cases h : a = b <;> simp [h]
theorem q_ibin {C : Cx} {st : St} {op : BinOp} {x y : XA} {k : IntKind} {a b : Int} {r : D} (hx : evA st.sl x = some (.d (.int k a))) (hy : evA st.sl y = some (.d (.int k b))) (hr : ibin op k a b = some r) :
    QStep C st (.bin op x y) (.d r) := by
  intro o hf ac w β S
  simp only [fits] at hf
  split at hf
  · rename_i op' t u v t' ho
    simp only [Bool.and_eq_true, decide_eq_true_eq] at hf
    obtain ⟨⟨rfl, h1⟩, h2⟩ := hf
    have h1 := AR_of_fitA S h1 hx
    have h2 := AR_of_fitA S h2 hy
    rw [AR, DR] at h1 h2
    cases op <;> simp only [ibin] at hr <;> cases hr
    all_goals
      refine ⟨_, by rw [AR, DR], fun w' _ => ?_⟩
      simp [execOp, ho, h1, h2, eqGuard, binOp, Op.intArith, Op.intCmp, wr, bne, beqd]
  · cases hf
end Go.AM

namespace Go.AM
section
variable {C : Cx} {st : St}
theorem sliceOf_some {P : Program} {t e : TypeId} (h : sliceOf P t = some e) : P.underlying t = some (.slice e) := by
  unfold sliceOf at h
  split at h
  · rename_i h1; cases h; exact h1
  · cases h
theorem isStr_some {P : Program} {t : TypeId} (h : isStr P t = true) : P.underlying t = some .string := by
  unfold isStr at h
  split at h
  · assumption
  · cases h
theorem szIs_some {P : Program} {t : TypeId} {n : Nat} (h : szIs P t n = true) (w : World) : (sizeOf t).run P w = .ok n w := by
  unfold szIs at h
  split at h
  · rename_i i hi
    have := Nat.eq_of_beq_eq_true h
    simp [sizeOf, typeInfo, hi, this]
  · cases h
theorem byIs_some {P : Program} {t : TypeId} {n : Nat} (h : byIs P t n = true) : ∃ i, P.info? t = some i ∧ i.bytes = n := by
  unfold byIs at h
  split at h
  · rename_i i hi; exact ⟨i, hi, Nat.eq_of_beq_eq_true h⟩
  · cases h
theorem fieldOf_some {P : Program} {s f off : Nat} {t : TypeId} (h : fieldOf P s f = some (off, t)) : ∃ fs x, P.underlying s = some (.struct fs) ∧ fs[f]? = some x ∧ x.offset = off ∧ x.type = t := by
  unfold fieldOf at h
  split at h
  · rename_i fs hu
    split at h
    · rename_i x hx
      simp only [Option.some.injEq, Prod.mk.injEq] at h
      exact ⟨fs, x, hu, hx, h.1, h.2⟩
    · cases h
  · cases h
theorem isOne_run {P : Program} {t : TypeId} (h : isOne P t = true) (w : World) : (isAgg t).run P w = .ok false w := by
  unfold isOne at h
  split at h
  · cases h
  · cases h
  · rename_i d h1 h2 h3
    unfold isAgg
    rw [Sem.run_bind, run_underlying h3 w]
    cases d <;> simp_all
  · cases h
theorem isRow_run {P : Program} {t : TypeId} (h : isRow P t = true) (w : World) : (isAgg t).run P w = .ok true w := by
  unfold isRow at h
  split at h
  · rename_i h3
    unfold isAgg
    rw [Sem.run_bind, run_underlying h3 w]; simp
  · rename_i h3
    unfold isAgg
    rw [Sem.run_bind, run_underlying h3 w]; simp
  · cases h
theorem AL_get {X : Nat → Prop} {β : Names} {w : World} : ∀ {xs : List AV} {vs : List Value}, AL X β w xs vs → ∀ (i : Nat) x, xs[i]? = some x → ∃ v, vs[i]? = some v ∧ AR X β w x v
  | [], _, _, i, x, hx => by simp at hx
  | y :: ys, vs, h, i, x, hx => by
    rw [AL] at h
    obtain ⟨v, r, rfl, h1, h2⟩ := h
    cases i with
    | zero => simp at hx; subst hx; exact ⟨v, by simp, h1⟩
    | succ i => simp at hx; simpa using AL_get h2 i x hx
theorem AL_len {X : Nat → Prop} {β : Names} {w : World} : ∀ {xs : List AV} {vs : List Value}, AL X β w xs vs → vs.length = xs.length
  | [], vs, h => by rw [AL] at h; simp [h]
  | y :: ys, vs, h => by
    rw [AL] at h
    obtain ⟨v, r, rfl, h1, h2⟩ := h
    simp [AL_len h2]
theorem AL_drop {X : Nat → Prop} {β : Names} {w : World} : ∀ (n : Nat) {xs : List AV} {vs : List Value}, AL X β w xs vs → AL X β w (xs.drop n) (vs.drop n)
  | 0, _, _, h => by simpa using h
  | n + 1, [], vs, h => by rw [AL] at h; simp [h, AL]
  | n + 1, y :: ys, vs, h => by
    rw [AL] at h
    obtain ⟨v, r, rfl, h1, h2⟩ := h
    simpa using AL_drop n h2
theorem AL_take {X : Nat → Prop} {β : Names} {w : World} : ∀ (n : Nat) {xs : List AV} {vs : List Value}, AL X β w xs vs → AL X β w (xs.take n) (vs.take n)
  | 0, _, _, _ => by simp [AL]
  | n + 1, [], vs, h => by rw [AL] at h; simp [h, AL]
  | n + 1, y :: ys, vs, h => by
    rw [AL] at h
    obtain ⟨v, r, rfl, h1, h2⟩ := h
    simp only [List.take_succ_cons]
    rw [AL]
    exact ⟨v, _, rfl, h1, AL_take n h2⟩
theorem AL_mk {X : Nat → Prop} {β : Names} {w : World} : ∀ {xs : List AV} {vs : List Value}, vs.length = xs.length → (∀ (i : Nat) x v, xs[i]? = some x → vs[i]? = some v → AR X β w x v) → AL X β w xs vs
  | [], vs, h, _ => by rw [AL]; simpa using h
  | y :: ys, [], h, _ => by simp at h
  | y :: ys, v :: vs, h, H => by
    rw [AL]
    exact ⟨v, vs, rfl, H 0 y v rfl rfl, AL_mk (by simpa using h) (fun i x u hx hu => H (i + 1) x u (by simpa using hx) (by simpa using hu))⟩
theorem DL_len {w : World} {ok : Nat → Prop} : ∀ {xs : List D} {vs : List Value}, DL w ok xs vs → vs.length = xs.length
  | [], vs, h => by rw [DL] at h; simp [h]
  | y :: ys, vs, h => by
    rw [DL] at h
    obtain ⟨v, r, rfl, h1, h2⟩ := h
    simp [DL_len h2]
theorem DL_AL {X : Nat → Prop} {β : Names} {w : World} : ∀ {xs : List D} {vs : List Value}, DL w (okf X β) xs vs → AL X β w (xs.map AV.d) vs
  | [], vs, h => by rw [DL] at h; simp [h, AL]
  | y :: ys, vs, h => by
    rw [DL] at h
    obtain ⟨v, r, rfl, h1, h2⟩ := h
    rw [List.map_cons, AL]
    exact ⟨v, r, rfl, by rw [AR]; exact h1, DL_AL h2⟩
/-- The cells from an address on. -/
theorem DRow_vals {w : World} {ok : Nat → Prop} : ∀ {xs : List D} {b o : Nat}, DRow w ok xs b o → ∃ vs, DL w ok xs vs ∧ w.rangeAt b o vs
  | [], b, o, _ => ⟨[], by simp [DL], by intro j v hv; simp at hv⟩
  | x :: xs, b, o, h => by
    rw [DRow] at h
    obtain ⟨⟨v, h1, h2⟩, h3⟩ := h
    obtain ⟨vs, h4, h5⟩ := DRow_vals h3
    refine ⟨v :: vs, by rw [DL]; exact ⟨v, vs, rfl, h2, h4⟩, ?_⟩
    intro j u hu
    cases j with
    | zero => simp at hu; subst hu; simpa using h1
    | succ j => have := h5 j u (by simpa using hu); rwa [show o + 1 + j = o + (j + 1) from by omega] at this
theorem DRow_drop {w : World} {ok : Nat → Prop} : ∀ (n : Nat) {xs : List D} {b o : Nat}, DRow w ok xs b o → DRow w ok (xs.drop n) b (o + n)
  | 0, _, _, _, h => by simpa using h
  | n + 1, [], b, o, _ => by simp [DRow]
  | n + 1, x :: xs, b, o, h => by
    rw [DRow] at h
    have := DRow_drop n h.2
    rw [List.drop_succ_cons, show o + (n + 1) = o + 1 + n from by omega]; exact this
theorem DRows_get {w : World} {ok : Nat → Prop} {sz : Nat} : ∀ {rows : List (List D)} {b o : Nat}, DRows w ok sz rows b o → ∀ (i : Nat) r, rows[i]? = some r → r.length = sz ∧ DRow w ok r b (o + i * sz)
  | [], _, _, _, i, r, h => by simp at h
  | x :: xs, b, o, h, i, r, hr => by
    rw [DRows] at h
    cases i with
    | zero => simp at hr; subst hr; simpa using ⟨h.1, h.2.1⟩
    | succ i =>
      have := DRows_get h.2.2 i r (by simpa using hr)
      rwa [show o + sz + i * sz = o + (i + 1) * sz from by rw [Nat.succ_mul]; omega] at this
theorem DRows_drop {w : World} {ok : Nat → Prop} {sz : Nat} : ∀ (n : Nat) {rows : List (List D)} {b o : Nat}, DRows w ok sz rows b o → DRows w ok sz (rows.drop n) b (o + n * sz)
  | 0, _, _, _, h => by simpa using h
  | n + 1, [], b, o, _ => by simp [DRows]
  | n + 1, x :: xs, b, o, h => by
    rw [DRows] at h
    have := DRows_drop n h.2.2
    rw [List.drop_succ_cons, show o + (n + 1) * sz = o + sz + n * sz from by rw [Nat.succ_mul]; omega]; exact this
theorem DRows_take {w : World} {ok : Nat → Prop} {sz : Nat} : ∀ (n : Nat) {rows : List (List D)} {b o : Nat}, DRows w ok sz rows b o → DRows w ok sz (rows.take n) b o
  | 0, _, _, _, _ => by simp [DRows]
  | n + 1, [], b, o, _ => by simp [DRows]
  | n + 1, x :: xs, b, o, h => by
    rw [DRows] at h
    rw [List.take_succ_cons, DRows]
    exact ⟨h.1, h.2.1, DRows_take n h.2.2⟩
theorem q_sbin_add {x y : XA} {a b : List UInt8} (hx : evA st.sl x = some (.d (.str a))) (hy : evA st.sl y = some (.d (.str b))) (hl : (a ++ b).length ≤ 9223372036854775807) :
    QStep C st (.bin .add x y) (.d (.str (a ++ b))) := by
  intro o hf ac w β S
  simp only [fits] at hf
  split at hf
  · rename_i op' t u v t' ho
    simp only [Bool.and_eq_true, decide_eq_true_eq] at hf
    obtain ⟨⟨rfl, h1⟩, h2⟩ := hf
    have h1 := AR_of_fitA S h1 hx
    have h2 := AR_of_fitA S h2 hy
    rw [AR, DR] at h1 h2
    refine ⟨.string ⟨(a ++ b).toArray⟩, by rw [AR, DR], fun w' _ => ?_⟩
    have e : (⟨a.toArray⟩ : ByteArray) ++ ⟨b.toArray⟩ = ⟨(a ++ b).toArray⟩ := by
      apply ByteArray.ext; simp
    have e1 : (⟨a.toArray⟩ : ByteArray).size = a.length := by simp [ByteArray.size]
    have e2 : (⟨b.toArray⟩ : ByteArray).size = b.length := by simp [ByteArray.size]
    simp only [List.length_append] at hl
    simp [execOp, ho, h1, h2, eqGuard, binOp, Op.stringOp, e, e1, e2]
    omega
  · cases hf
def sbin (op : BinOp) (a b : List UInt8) : Option Bool :=
  match op with
  | .eql => some (decide (a = b))
  | .neq => some (!decide (a = b))
  | .lss => some (Op.bytesLess a b)
  | .leq => some (Op.bytesLess a b || decide (a = b))
  | .gtr => some (!(Op.bytesLess a b || decide (a = b)))
  | .geq => some (!Op.bytesLess a b)
  | _ => none
theorem beqS (a b : List UInt8) : (a == b) = decide (a = b) := by
  by_cases h : a = b <;> simp [h]
theorem q_sbin {op : BinOp} {x y : XA} {a b : List UInt8} {r : Bool} (hx : evA st.sl x = some (.d (.str a))) (hy : evA st.sl y = some (.d (.str b))) (hr : sbin op a b = some r) :
    QStep C st (.bin op x y) (.d (.bool r)) := by
  intro o hf ac w β S
  simp only [fits] at hf
  split at hf
  · rename_i op' t u v t' ho
    simp only [Bool.and_eq_true, decide_eq_true_eq] at hf
    obtain ⟨⟨rfl, h1⟩, h2⟩ := hf
    have h1 := AR_of_fitA S h1 hx
    have h2 := AR_of_fitA S h2 hy
    rw [AR, DR] at h1 h2
    cases op <;> simp only [sbin] at hr <;> cases hr
    all_goals
      refine ⟨_, by rw [AR, DR], fun w' _ => ?_⟩
      simp [execOp, ho, h1, h2, eqGuard, binOp, Op.stringOp, beqS]
  · cases hf
end
end Go.AM

namespace Go.AM
section
variable {C : Cx} {st : St}
theorem run_equal {P : Program} {t : TypeId} {x y : Value} {r : Bool} {w : World} (h : ∀ d, (Op.equalIn (d + 1) t x y).run P w = .ok r w) : (Op.equal t x y).run P w = .ok r w :=
  h 9999
theorem run_equal_bool {P : Program} {t : TypeId} (hu : P.underlying t = some .bool) (a b : Bool) (w : World) : (Op.equal t (.bool a) (.bool b)).run P w = .ok (a == b) w := by
  refine run_equal fun d => ?_
  simp [Op.equalIn, run_underlying hu]
theorem q_eqb {neg : Bool} {x y : XA} {a b : Bool} (hx : evA st.sl x = some (.d (.bool a))) (hy : evA st.sl y = some (.d (.bool b))) :
    QStep C st (.eqb neg x y) (.d (.bool (bif neg then a != b else a == b))) := by
  intro o hf ac w β S
  simp only [fits] at hf
  split at hf
  · rename_i op' t u v t' ho
    simp only [Bool.and_eq_true, decide_eq_true_eq] at hf
    obtain ⟨⟨⟨rfl, h0⟩, h1⟩, h2⟩ := hf
    have h1 := AR_of_fitA S h1 hx
    have h2 := AR_of_fitA S h2 hy
    rw [AR, DR] at h1 h2
    have hu : C.P.underlying t = some .bool := by
      split at h0
      · assumption
      · cases h0
    refine ⟨_, by rw [AR, DR], fun w' _ => ?_⟩
    cases neg
    · simp only [execOp, ho, h1, h2, eqGuard, binOp, Sem.run_bind, run_equal_bool hu, Bool.false_eq_true, if_false]
      rfl
    · simp only [execOp, ho, h1, h2, eqGuard, binOp, Sem.run_bind, run_equal_bool hu, if_true]
      rfl
  · cases hf
theorem q_conv {k k' : IntKind} {x : XA} {n : Int} (hx : evA st.sl x = some (.d (.int k' n))) : QStep C st (.conv k x) (.d (.int k (wr k n))) := by
  intro o hf ac w β S
  simp only [fits] at hf
  split at hf
  · rename_i s t y ho
    simp only [Bool.and_eq_true] at hf
    obtain ⟨⟨h0, h1⟩, h2⟩ := hf
    have h2 := AR_of_fitA S h2 hx
    rw [AR, DR] at h2
    split at h0
    · rename_i ds hs
      split at h1
      · rename_i k2 ht
        rw [kindEq_eq h1]
        refine ⟨_, by rw [AR, DR], fun w' _ => ?_⟩
        simp [execOp, ho, h2, convert, run_underlying hs, run_underlying ht, Conv.intToInt, wr]
      · cases h1
    · cases h0
  · cases hf
/-- The cells of a pointer: what is there from it on. -/
theorem box_vals {X : Nat → Prop} {β : Names} {w : World} {cells : List AV} {b e : Nat} (h : OBR X β w (.box cells) (some b) e) : ∃ vs : List Value, AL X β w cells vs ∧ w.rangeAt b 0 vs := by
  obtain ⟨c, ty, fr, h1, h2, h3⟩ := h
  refine ⟨c.toList, h3, fun j v hv => ?_⟩
  simp only [Array.getElem?_toList] at hv
  simp [World.cell?, h1, hv]
theorem rangeAt_ext {w w' : World} (h : Ext w w') {b o : Nat} {vs : List Value} (r : w.rangeAt b o vs) : w'.rangeAt b o vs := fun j v hv => h.cell (r j v hv)
theorem rangeAt_drop {w : World} {b o : Nat} {vs : List Value} (r : w.rangeAt b o vs) (n : Nat) : w.rangeAt b (o + n) (vs.drop n) := by
  intro j v hv
  have := r (n + j) v (by simpa using hv)
  rwa [← Nat.add_assoc] at this
theorem rangeAt_take {w : World} {b o : Nat} {vs : List Value} (r : w.rangeAt b o vs) (n : Nat) : w.rangeAt b o (vs.take n) := by
  intro j v hv
  exact r j v (by
    rw [List.getElem?_take] at hv
    split at hv
    · exact hv
    · cases hv)
theorem rows_vals {X : Nat → Prop} {β : Names} {w : World} {sz : Nat} {rs : List (List D)} {b e : Nat} (h : OBR X β w (.rows sz rs) (some b) e) {i : Nat} {r : List D} (hr : rs[i]? = some r) :
    r.length = sz ∧ ∃ vs : List Value, DL w (okf X β) r vs ∧ w.rangeAt b (i * sz) vs := by
  obtain ⟨c, ty, fr, h1, h2, h3, h4⟩ := h
  obtain ⟨h5, h6⟩ := h4 i r hr
  refine ⟨h5, ?_⟩
  have key : ∀ (q : List D) (k : Nat), (∀ j x, q[j]? = some x → ∃ v, c[i * sz + (k + j)]? = some v ∧ DR w (okf X β) x v) → ∃ vs : List Value, DL w (okf X β) q vs ∧ w.rangeAt b (i * sz + k) vs := by
    intro q
    induction q with
    | nil => exact fun k _ => ⟨[], by rw [DL], fun j v hv => by simp at hv⟩
    | cons x q ih =>
      intro k hq
      obtain ⟨v, hv, hx⟩ := hq 0 x rfl
      obtain ⟨vs, h7, h8⟩ := ih (k + 1) (fun j y hy => by
        obtain ⟨u, hu, hy'⟩ := hq (j + 1) y (by simpa using hy)
        exact ⟨u, by rw [show k + 1 + j = k + (j + 1) from by omega]; exact hu, hy'⟩)
      refine ⟨v :: vs, by rw [DL]; exact ⟨v, vs, rfl, hx, h7⟩, fun j u hu => ?_⟩
      cases j with
      | zero => simp at hu; subst hu; simp at hv; simp [World.cell?, h1, hv]
      | succ j =>
        have := h8 j u (by simpa using hu)
        rwa [show i * sz + (k + 1) + j = i * sz + k + (j + 1) from by omega] at this
  obtain ⟨vs, h7, h8⟩ := key r 0 (fun j x hx => by simpa using h6 j x hx)
  exact ⟨vs, h7, by simpa using h8⟩
theorem loadOne {P : Program} {w : World} {t : TypeId} {b o : Nat} {v : Value} (h1 : isOne P t = true) (h : w.cell? ⟨b, o, none⟩ = some v) :
    (Instr.loadAt t (.pointer (some ⟨b, o, none⟩))).run P w = .ok v w := by
  simp [Instr.loadAt, Instr.sureAddr, loadVar, isOne_run h1, load, Sem.run, h]
theorem loadMany {P : Program} {w : World} {t : TypeId} {b o n : Nat} {vs : List Value} (h1 : isRow P t = true) (hn : szIs P t n = true) (h : w.rangeAt b o vs) (hl : vs.length = n) :
    (Instr.loadAt t (.pointer (some ⟨b, o, none⟩))).run P w = .ok (.agg vs.toArray) w := by
  have hl : (loadCells ⟨b, o, none⟩ n).run P w = .ok vs.toArray w := by
    rw [← hl]
    exact run_loadCells_list (P := P) w ⟨b, o, none⟩ vs (fun j v hv => by rw [Addr.add_mid]; exact h j v hv)
  simp [Instr.loadAt, Instr.sureAddr, loadVar, isRow_run h1, szIs_some hn, hl]
theorem q_load1_ptr {x : XA} {e o : Nat} {cells : List AV} {v : AV} (hx : evA st.sl x = some (.ptr e o)) (he : get st.own e = some (.box cells)) (hv : cells[o]? = some v) :
    QStep C st (.load1 x) v := by
  intro op hf ac w β S
  simp only [fits] at hf
  split at hf
  · rename_i t y ho
    simp only [Bool.and_eq_true] at hf
    have h2 := AR_of_fitA S hf.2 hx
    rw [AR] at h2
    obtain ⟨b, hb, h2⟩ := h2
    have hob := S.hr.own e _ he
    rw [hb] at hob
    obtain ⟨vs, h3, h4⟩ := box_vals hob
    obtain ⟨u, h5, h6⟩ := AL_get h3 o v hv
    refine ⟨u, h6, fun w' hw' => ?_⟩
    have h7 : w'.cell? ⟨b, o, none⟩ = some u := by
      have := hw'.cell (h4 o u h5)
      simpa using this
    simp only [execOp, ho, h2, Sem.run_bind, loadOne hf.1 h7]
    rfl
  · cases hf
theorem q_loadN_ptr {x : XA} {e o n : Nat} {cells : List AV} (hx : evA st.sl x = some (.ptr e o)) (he : get st.own e = some (.box cells)) (hn : o + n ≤ cells.length) :
    QStep C st (.loadN n x) (.agg ((cells.drop o).take n)) := by
  intro op hf ac w β S
  simp only [fits] at hf
  split at hf
  · rename_i t y ho
    simp only [Bool.and_eq_true] at hf
    have h2 := AR_of_fitA S hf.2 hx
    rw [AR] at h2
    obtain ⟨b, hb, h2⟩ := h2
    have hob := S.hr.own e _ he
    rw [hb] at hob
    obtain ⟨vs, h3, h4⟩ := box_vals hob
    have hl := AL_len h3
    refine ⟨.agg ((vs.drop o).take n).toArray, ?_, fun w' hw' => ?_⟩
    · rw [AR]; exact ⟨_, rfl, by simpa using AL_take n (AL_drop o h3)⟩
    · have h7 : w'.rangeAt b o ((vs.drop o).take n) := rangeAt_ext hw' (by simpa using rangeAt_take (rangeAt_drop h4 o) n)
      simp only [execOp, ho, h2, Sem.run_bind, loadMany hf.1.1 hf.1.2 h7 (by simp; omega)]
      rfl
  · cases hf
theorem q_load1_ip {x : XA} {c : D} {cs : List D} (hx : evA st.sl x = some (.d (.ip (c :: cs)))) : QStep C st (.load1 x) (.d c) := by
  intro op hf ac w β S
  simp only [fits] at hf
  split at hf
  · rename_i t y ho
    simp only [Bool.and_eq_true] at hf
    have h2 := AR_of_fitA S hf.2 hx
    rw [AR, DR] at h2
    obtain ⟨b, o, h2, h3⟩ := h2
    rcases h3 with h3 | ⟨hok, h3⟩
    · cases h3
    rw [DRow] at h3
    obtain ⟨⟨u, h5, h6⟩, _⟩ := h3
    refine ⟨u, by rw [AR]; exact h6, fun w' hw' => ?_⟩
    simp only [execOp, ho, h2, Sem.run_bind, loadOne hf.1 (hw'.cell h5)]
    rfl
  · cases hf
theorem q_loadN_ip {x : XA} {n : Nat} {cs : List D} (hx : evA st.sl x = some (.d (.ip cs))) (hn : n ≤ cs.length) : QStep C st (.loadN n x) (.agg ((cs.take n).map AV.d)) := by
  intro op hf ac w β S
  simp only [fits] at hf
  split at hf
  · rename_i t y ho
    simp only [Bool.and_eq_true] at hf
    have h2 := AR_of_fitA S hf.2 hx
    rw [AR, DR] at h2
    obtain ⟨b, o, h2, h3⟩ := h2
    have h3 : DRow w (okf C.X β) cs b o := by
      rcases h3 with h3 | h3
      · rw [h3, DRow]; trivial
      · exact h3.2
    obtain ⟨vs, h4, h5⟩ := DRow_vals h3
    have hl := DL_len h4
    refine ⟨.agg (vs.take n).toArray, ?_, fun w' hw' => ?_⟩
    · rw [AR]; exact ⟨_, rfl, by rw [List.map_take]; exact AL_take n (DL_AL h4)⟩
    · have h7 : w'.rangeAt b o (vs.take n) := rangeAt_ext hw' (rangeAt_take h5 n)
      simp only [execOp, ho, h2, Sem.run_bind, loadMany hf.1.1 hf.1.2 h7 (by simp; omega)]
      rfl
  · cases hf
theorem q_load1_rptr {x : XA} {e sz i o : Nat} {rs : List (List D)} {r : List D} {c : D} (hx : evA st.sl x = some (.rptr e sz i o)) (he : get st.own e = some (.rows sz rs))
    (hr : rs[i]? = some r) (hc : r[o]? = some c) : QStep C st (.load1 x) (.d c) := by
  intro op hf ac w β S
  simp only [fits] at hf
  split at hf
  · rename_i t y ho
    simp only [Bool.and_eq_true] at hf
    have h2 := AR_of_fitA S hf.2 hx
    rw [AR] at h2
    obtain ⟨b, hb, h2⟩ := h2
    have hob := S.hr.own e _ he
    rw [hb] at hob
    obtain ⟨h3, vs, h4, h5⟩ := rows_vals hob hr
    obtain ⟨u, h6, h7⟩ := AL_get (DL_AL h4) o (.d c) (by simp [hc])
    refine ⟨u, h7, fun w' hw' => ?_⟩
    simp only [execOp, ho, h2, Sem.run_bind, loadOne hf.1 (hw'.cell (h5 o u h6))]
    rfl
  · cases hf
theorem fieldAt_run {P : Program} {s f off : Nat} {t : TypeId} {i : TypeInfo} (h : fieldOf P s f = some (off, t)) (hi : P.info? t = some i) (hz : i.size ≠ 0) (w : World) (b o : Nat) :
    (Instr.fieldAt s (.pointer (some ⟨b, o, none⟩)) f).run P w = .ok (.pointer (some ⟨b, o + off, none⟩)) w := by
  obtain ⟨fs, x, h1, h2, h3, h4⟩ := fieldOf_some h
  subst h3 h4
  have hs : (sizeOf x.type).run P w = .ok i.size w := by simp [sizeOf, typeInfo, hi]
  simp [Instr.fieldAt, run_underlying h1, h2, Instr.sureAddr, fieldPlace, hs, hz, Addr.add_mid]
theorem fadr_run {P : Program} {op : Oper} {x : XA} {off : Nat} {ac : Act} (hf : fits P op (.fadr x off) = true) {b o : Nat} (w : World) :
    (∃ y, fitA y x = true ∧ (ac.eval y = .pointer (some ⟨b, o, none⟩) → (execOp ac.eval op).run P w = .ok (.value (.pointer (some ⟨b, o + off, none⟩))) w)) := by
  simp only [fits] at hf
  split at hf
  · rename_i s y f ho
    simp only [Bool.and_eq_true] at hf
    obtain ⟨h0, h1⟩ := hf
    refine ⟨y, h1, fun h2 => ?_⟩
    split at h0
    · rename_i off' t hfo
      simp only [Bool.and_eq_true] at h0
      obtain ⟨h3, h4⟩ := h0
      have h3 := Nat.eq_of_beq_eq_true h3
      subst h3
      split at h4
      · rename_i i hi
        simp only [execOp, ho, h2, Sem.run_bind, fieldAt_run hfo hi (by intro hz; rw [hz] at h4; exact absurd h4 (by decide))]
        rfl
      · cases h4
    · cases h0
  · cases hf
theorem q_fadr_ptr {x : XA} {e o off : Nat} (hx : evA st.sl x = some (.ptr e o)) : QStep C st (.fadr x off) (.ptr e (o + off)) := by
  intro op hf ac w β S
  obtain ⟨y, hy, _⟩ := fadr_run (ac := ac) hf (b := 0) (o := 0) w
  have h2 := AR_of_fitA S hy hx
  rw [AR] at h2
  obtain ⟨b, hb, h2⟩ := h2
  refine ⟨_, by rw [AR]; exact ⟨b, hb, rfl⟩, fun w' _ => ?_⟩
  obtain ⟨y', hy', hr⟩ := fadr_run (ac := ac) hf (b := b) (o := o) w'
  have h3 := AR_of_fitA S hy' hx
  rw [AR] at h3
  obtain ⟨b', hb', h3⟩ := h3
  rw [hb] at hb'; cases hb'
  exact hr h3
theorem q_fadr_rptr {x : XA} {e sz i o off : Nat} (hx : evA st.sl x = some (.rptr e sz i o)) : QStep C st (.fadr x off) (.rptr e sz i (o + off)) := by
  intro op hf ac w β S
  obtain ⟨y, hy, _⟩ := fadr_run (ac := ac) hf (b := 0) (o := 0) w
  have h2 := AR_of_fitA S hy hx
  rw [AR] at h2
  obtain ⟨b, hb, h2⟩ := h2
  refine ⟨_, by rw [AR]; exact ⟨b, hb, rfl⟩, fun w' _ => ?_⟩
  obtain ⟨y', hy', hr⟩ := fadr_run (ac := ac) hf (b := b) (o := i * sz + o) w'
  have h3 := AR_of_fitA S hy' hx
  rw [AR] at h3
  obtain ⟨b', hb', h3⟩ := h3
  rw [hb] at hb'; cases hb'
  rw [hr h3, Nat.add_assoc]
theorem q_fadr_ip {x : XA} {off : Nat} {cs : List D} (hx : evA st.sl x = some (.d (.ip cs))) : QStep C st (.fadr x off) (.d (.ip (cs.drop off))) := by
  intro op hf ac w β S
  have key : ∀ y, fitA y x = true → ∃ b o, ac.eval y = .pointer (some ⟨b, o, none⟩) ∧ (cs = [] ∨ (okf C.X β b ∧ DRow w (okf C.X β) cs b o)) := by
    intro y hy
    have h2 := AR_of_fitA S hy hx
    rw [AR, DR] at h2
    exact h2
  simp only [fits] at hf
  have hf0 := hf
  split at hf
  · rename_i s y f ho
    simp only [Bool.and_eq_true] at hf
    obtain ⟨b, o, h2, h3⟩ := key y hf.2
    refine ⟨.pointer (some ⟨b, o + off, none⟩), ?_, fun w' _ => ?_⟩
    · rw [AR, DR]
      refine ⟨b, o + off, rfl, ?_⟩
      rcases h3 with h3 | ⟨h4, h5⟩
      · left; rw [h3]; simp
      · exact .inr ⟨h4, DRow_drop off h5⟩
    · obtain ⟨h0, h1⟩ := hf
      split at h0
      · rename_i off' t hfo
        simp only [Bool.and_eq_true] at h0
        obtain ⟨h3, h4⟩ := h0
        have h3 := Nat.eq_of_beq_eq_true h3
        subst h3
        split at h4
        · rename_i i hi
          simp only [execOp, ho, h2, Sem.run_bind, fieldAt_run hfo hi (by intro hz; rw [hz] at h4; exact absurd h4 (by decide))]
          rfl
        · cases h4
      · cases h0
  · cases hf
end
end Go.AM

namespace Go.AM
section
variable {C : Cx} {st : St}
theorem add_spot (b o n : Nat) : (⟨b, o, none⟩ : Addr).add n = ⟨b, o + n, none⟩ := Addr.add_mid b o n
theorem indexAt_run {P : Program} {t e : TypeId} {sz : Nat} (ht : P.underlying t = some (.slice e)) (hz : szIs P e sz = true) (w : World) {k : IntKind} {i : Int} {b o len cap : Nat} (h0 : 0 ≤ i) (h1 : i < len) :
    (Instr.indexAt t (.slice (some ⟨b, o, none⟩) len cap) (.int k i)).run P w = .ok (.pointer (some ⟨b, o + i.toNat * sz, none⟩)) w := by
  simp [Instr.indexAt, asIntOf, run_underlying ht, szIs_some hz, h0, h1, add_spot]
theorem iadr_run {P : Program} {op : Oper} {sz : Nat} {x i : XA} {ac : Act} (hf : fits P op (.iadr sz x i) = true) :
    ∃ y j, fitA y x = true ∧ fitA j i = true ∧ ∀ (w : World) (k : IntKind) (n : Int) (b o len cap : Nat), 0 ≤ n → n < len → ac.eval y = .slice (some ⟨b, o, none⟩) len cap → ac.eval j = .int k n →
      (execOp ac.eval op).run P w = .ok (.value (.pointer (some ⟨b, o + n.toNat * sz, none⟩))) w := by
  simp only [fits] at hf
  split at hf
  · rename_i t y j ho
    simp only [Bool.and_eq_true] at hf
    obtain ⟨⟨h0, h1⟩, h2⟩ := hf
    refine ⟨y, j, h1, h2, fun w k n b o len cap hn0 hn1 hy hj => ?_⟩
    split at h0
    · rename_i e he
      simp only [execOp, ho, hy, hj, Sem.run_bind, indexAt_run (sliceOf_some he) h0 w hn0 hn1]
      rfl
    · cases h0
  · cases hf
theorem q_iadr {sz : Nat} {x i : XA} {k : IntKind} {n : Int} {rows : List (List D)} {row : List D} (hx : evA st.sl x = some (.d (.sl sz rows))) (hi : evA st.sl i = some (.d (.int k n)))
    (h0 : 0 ≤ n) (hr : rows[n.toNat]? = some row) : QStep C st (.iadr sz x i) (.d (.ip row)) := by
  intro op hf ac w β S
  obtain ⟨y, j, hy, hj, hrun⟩ := iadr_run (ac := ac) hf
  have h2 := AR_of_fitA S hy hx
  have h3 := AR_of_fitA S hj hi
  simp only [AR, DR] at h2 h3
  obtain ⟨a, cap, h4, h5, h6⟩ := h2
  have hlt : n.toNat < rows.length := by
    rcases Nat.lt_or_ge n.toNat rows.length with h | h
    · exact h
    · rw [List.getElem?_eq_none h] at hr; cases hr
  rcases h6 with h6 | ⟨b, o, rfl, h7, h8, h9⟩
  · rw [h6] at hlt; simp at hlt
  refine ⟨_, ?_, fun w' _ => hrun w' k n b o _ _ h0 (by omega) h4 h3⟩
  rw [AR, DR]
  exact ⟨b, _, rfl, .inr ⟨h7, (DRows_get h9 _ _ hr).2⟩⟩
theorem q_iadr_osl {sz : Nat} {x i : XA} {k : IntKind} {n : Int} {e s len : Nat} (hx : evA st.sl x = some (.osl e sz s len)) (hi : evA st.sl i = some (.d (.int k n)))
    (h0 : 0 ≤ n) (hr : n < len) : QStep C st (.iadr sz x i) (.rptr e sz (s + n.toNat) 0) := by
  intro op hf ac w β S
  obtain ⟨y, j, hy, hj, hrun⟩ := iadr_run (ac := ac) hf
  have h2 := AR_of_fitA S hy hx
  have h3 := AR_of_fitA S hj hi
  rw [AR] at h2
  rw [AR, DR] at h3
  obtain ⟨a, cap, h4, h5, h6⟩ := h2
  rcases h6 with h6 | ⟨b, c, ty, fr, h7, rfl, h8, h9⟩
  · omega
  refine ⟨_, ?_, fun w' _ => hrun w' k n b _ _ _ h0 hr h4 h3⟩
  rw [AR]
  exact ⟨b, h7, by rw [Nat.add_mul]; rfl⟩
theorem fitO_some {o : Option Operand} {x : XA} (h : fitO o (some x) = true) : ∃ y, o = some y ∧ fitA y x = true := by
  cases o with
  | none => cases h
  | some y => exact ⟨y, rfl, h⟩
theorem fitO_none {o : Option Operand} (h : fitO o none = true) : o = none := by
  cases o with
  | none => rfl
  | some y => cases h
theorem sliceBound_run {P : Program} {w : World} {k : IntKind} {i : Int} {y : Nat} {code : BoundsCode} (h0 : 0 ≤ i) (h1 : i ≤ y) :
    (Instr.sliceBound (.int k i) y code).run P w = .ok i.toNat w := by
  simp [Instr.sliceBound, asIntOf, h0, h1]
/-- The bound's value: what is given, or the default. -/
def bnd (sl : List (Nat × AV)) (x : Option XA) (dflt : Int) : Option Int :=
  match x with
  | none => some dflt
  | some a => match evA sl a with
    | some (.d (.int _ n)) => some n
    | _ => none
theorem bnd_some {a : XA} {dflt n : Int} (h : bnd st.sl (some a) dflt = some n) : ∃ k, evA st.sl a = some (.d (.int k n)) := by
  simp only [bnd] at h
  split at h
  · rename_i k m hm; cases h; exact ⟨k, hm⟩
  · cases h
/-- The three bounds, as the model reckons them, where there is no third index. -/
theorem bounds_run {P : Program} {isS : Bool} {len cap : Nat} {lo hi : Option XA} {l h : Option Operand} {a b : Int} {ac : Act} {w : World} {β : Names}
    (S : SatB C st ac w β) (hl : fitO l lo = true) (hh : fitO h hi = true) (ha : bnd st.sl lo 0 = some a) (hb : bnd st.sl hi len = some b)
    (h0 : 0 ≤ a) (h1 : a ≤ b) (h2 : b ≤ cap) (w' : World) :
    (Instr.sliceBounds isS len cap (l.map ac.eval) (h.map ac.eval) none).run P w' = .ok (a.toNat, b.toNat, cap) w' := by
  have e1 : (a : Int) ≤ (b.toNat : Int) := by omega
  cases hi with
  | none =>
    rw [fitO_none hh]
    simp only [bnd, Option.some.injEq] at hb
    subst hb
    cases lo with
    | none =>
      rw [fitO_none hl]
      simp only [bnd, Option.some.injEq] at ha
      subst ha
      simp [Instr.sliceBounds]
    | some x =>
      obtain ⟨y, rfl, hy⟩ := fitO_some hl
      obtain ⟨k, hk⟩ := bnd_some ha
      have h3 := AR_of_fitA S hy hk
      rw [AR, DR] at h3
      simp only [Instr.sliceBounds, Option.map_some, Option.map_none, h3, Sem.run_bind, Sem.run_pure, Result.andThen_ok, sliceBound_run h0 h1]
      simp
  | some z =>
    obtain ⟨y, rfl, hy⟩ := fitO_some hh
    obtain ⟨k, hk⟩ := bnd_some hb
    have h3 := AR_of_fitA S hy hk
    rw [AR, DR] at h3
    have hb0 : 0 ≤ b := by omega
    cases lo with
    | none =>
      rw [fitO_none hl]
      simp only [bnd, Option.some.injEq] at ha
      subst ha
      simp only [Instr.sliceBounds, Option.map_some, Option.map_none, h3, Sem.run_bind, Sem.run_pure, Result.andThen_ok, sliceBound_run hb0 h2]
      simp
    | some x =>
      obtain ⟨y', rfl, hy'⟩ := fitO_some hl
      obtain ⟨k', hk'⟩ := bnd_some ha
      have h4 := AR_of_fitA S hy' hk'
      rw [AR, DR] at h4
      simp only [Instr.sliceBounds, Option.map_some, h3, h4, Sem.run_bind, Sem.run_pure, Result.andThen_ok, sliceBound_run hb0 h2, sliceBound_run h0 e1]
theorem slc_fit {P : Program} {op : Oper} {sz : Nat} {x : XA} {lo hi : Option XA} (hf : fits P op (.slc sz x lo hi none) = true) :
    ∃ t y l h e, op.op = .slice t y l h none ∧ P.underlying t = some (.slice e) ∧ szIs P e sz = true ∧ fitA y x = true ∧ fitO l lo = true ∧ fitO h hi = true := by
  simp only [fits] at hf
  split at hf
  · rename_i t y l' h' m' ho
    simp only [Bool.and_eq_true] at hf
    obtain ⟨⟨⟨⟨h3, h4⟩, h5⟩, h6⟩, h7⟩ := hf
    rw [fitO_none h7] at ho
    split at h3
    · rename_i e he
      exact ⟨t, y, l', h', e, ho, sliceOf_some he, h3, h4, h5, h6⟩
    · cases h3
  · cases hf
theorem q_slc {sz : Nat} {x : XA} {lo hi : Option XA} {rows : List (List D)} {a b : Int} (hx : evA st.sl x = some (.d (.sl sz rows))) (ha : bnd st.sl lo 0 = some a) (hb : bnd st.sl hi rows.length = some b)
    (h0 : 0 ≤ a) (h1 : a ≤ b) (h2 : b ≤ rows.length) : QStep C st (.slc sz x lo hi none) (.d (.sl sz ((rows.drop a.toNat).take (b.toNat - a.toNat)))) := by
  intro op hf ac w β S
  obtain ⟨t, y, l, h, e, ho, hu, hz, hy, hl, hh⟩ := slc_fit hf
  have h4 := AR_of_fitA S hy hx
  rw [AR, DR] at h4
  obtain ⟨ad, cap, h4, h5, h6⟩ := h4
  have hlen : ((rows.drop a.toNat).take (b.toNat - a.toNat)).length = b.toNat - a.toNat := by simp; omega
  refine ⟨.slice (if cap = a.toNat then ad else ad.map (·.add (a.toNat * sz))) (b.toNat - a.toNat) (cap - a.toNat), ?_, fun w' _ => ?_⟩
  · rw [AR, DR, hlen]
    refine ⟨_, _, rfl, by omega, ?_⟩
    by_cases hc : b.toNat - a.toNat = 0
    · left; exact List.eq_nil_of_length_eq_zero (by rw [hlen]; exact hc)
    · right
      rcases h6 with h6 | ⟨bb, o, rfl, h7, h8, h9⟩
      · rw [h6] at h2; simp at h2; omega
      rw [if_neg (by omega)]
      exact ⟨bb, o + a.toNat * sz, by simp [add_spot], h7, h8, DRows_take _ (DRows_drop _ h9)⟩
  · have hbr := bounds_run (P := C.P) (isS := true) (len := rows.length) (cap := cap) S hl hh ha hb h0 h1 (by omega) w'
    simp only [execOp, ho, Instr.sliceAt, Sem.run_bind, run_underlying hu, Result.andThen_ok, Instr.slice, h4, Option.map_none, hbr, szIs_some hz, Sem.run_pure]
theorem q_ext {x : XA} {i : Nat} {cs : List AV} {v : AV} (hx : evA st.sl x = some (.tup cs)) (hv : cs[i]? = some v) : QStep C st (.ext x i) v := by
  intro op hf ac w β S
  simp only [fits] at hf
  split at hf
  · rename_i y j ho
    simp only [Bool.and_eq_true] at hf
    have h2 := AR_of_fitA S hf.1 hx
    have := Nat.eq_of_beq_eq_true hf.2
    subst this
    rw [AR] at h2
    obtain ⟨vs, h2, h3⟩ := h2
    obtain ⟨u, h4, h5⟩ := AL_get h3 i v hv
    simp only [Array.getElem?_toList] at h4
    exact ⟨u, h5, fun w' _ => by simp [execOp, ho, h2, Instr.extract, h4]⟩
  · cases hf
theorem list1 {α : Type} {l : Array α} {x : α} (h : l.toList = [x]) : l = #[x] := by cases l; simp_all
theorem list2 {α : Type} {l : Array α} {x y : α} (h : l.toList = [x, y]) : l = #[x, y] := by cases l; simp_all
theorem lenS_fit {P : Program} {op : Oper} {x : XA} (hf : fits P op (.lenS x) = true) : ∃ y t e, op.op = .call { callee := .builtin .len, args := #[y], argTypes := #[t] } ∧ P.underlying t = some (.slice e) ∧ fitA y x = true := by
  simp only [fits] at hf
  split at hf
  · rename_i args ts ho
    split at hf
    · rename_i y t h1 h2
      simp only [Bool.and_eq_true] at hf
      cases he : sliceOf P t with
      | none => rw [he] at hf; simp at hf
      | some e => exact ⟨y, t, e, by rw [ho, list1 h1, list1 h2], sliceOf_some he, hf.2⟩
    · cases hf
  · cases hf
theorem len_run {P : Program} {op : Oper} {y : Operand} {t e : TypeId} (ho : op.op = .call { callee := .builtin .len, args := #[y], argTypes := #[t] }) (hu : P.underlying t = some (.slice e)) {ac : Act} {a : Option Addr} {n c : Nat}
    (h : ac.eval y = .slice a n c) (w : World) : (execOp ac.eval op).run P w = .ok (.value (.int .i64 n)) w := by
  simp [execOp, ho, resolve, invoke, builtin, Builtin.len_, h, run_underlying hu, goInt]
theorem q_lenS {x : XA} {sz : Nat} {rows : List (List D)} (hx : evA st.sl x = some (.d (.sl sz rows))) : QStep C st (.lenS x) (.d (.int .i64 rows.length)) := by
  intro op hf ac w β S
  obtain ⟨y, t, e, ho, hu, hy⟩ := lenS_fit hf
  have h2 := AR_of_fitA S hy hx
  rw [AR, DR] at h2
  obtain ⟨a, cap, h2, _⟩ := h2
  exact ⟨_, by rw [AR, DR], fun w' _ => len_run ho hu h2 w'⟩
theorem q_lenS_osl {x : XA} {e sz s len : Nat} (hx : evA st.sl x = some (.osl e sz s len)) : QStep C st (.lenS x) (.d (.int .i64 len)) := by
  intro op hf ac w β S
  obtain ⟨y, t, e, ho, hu, hy⟩ := lenS_fit hf
  have h2 := AR_of_fitA S hy hx
  rw [AR] at h2
  obtain ⟨a, cap, h2, _⟩ := h2
  exact ⟨_, by rw [AR, DR], fun w' _ => len_run ho hu h2 w'⟩
theorem q_lenT {x : XA} {l : List UInt8} (hx : evA st.sl x = some (.d (.str l))) : QStep C st (.lenT x) (.d (.int .i64 l.length)) := by
  intro op hf ac w β S
  simp only [fits] at hf
  split at hf
  · rename_i args ts ho
    split at hf
    · rename_i y t h1 h2
      simp only [Bool.and_eq_true] at hf
      rw [list1 h1, list1 h2] at ho
      have h3 := AR_of_fitA S hf.2 hx
      rw [AR, DR] at h3
      refine ⟨_, by rw [AR, DR], fun w' _ => ?_⟩
      have hsz : (⟨l.toArray⟩ : ByteArray).size = l.length := by simp [ByteArray.size]
      simp [execOp, ho, resolve, invoke, builtin, Builtin.len_, h3, run_underlying (isStr_some hf.1), goInt, hsz]
    · cases hf
  · cases hf
theorem q_nilck {x : XA} {v : AV} (hx : evA st.sl x = some v) (hp : ∀ X β w u, AR X β w v u → ∃ a, u = .pointer (some a)) : QStep C st (.nilck x) v := by
  intro op hf ac w β S
  simp only [fits] at hf
  split at hf
  · rename_i y ho
    have h2 := AR_of_fitA S hf hx
    obtain ⟨a, ha⟩ := hp _ _ _ _ h2
    refine ⟨_, h2, fun w' _ => ?_⟩
    simp [execOp, ho, ha]
  · cases hf
theorem q_nilck_ptr {x : XA} {e o : Nat} (hx : evA st.sl x = some (.ptr e o)) : QStep C st (.nilck x) (.ptr e o) :=
  q_nilck hx fun X β w u h => by rw [AR] at h; obtain ⟨b, _, h⟩ := h; exact ⟨_, h⟩
def evL (sl : List (Nat × AV)) : List XA → Option (List AV)
  | [] => some []
  | x :: xs => match evA sl x with
    | some v => match evL sl xs with
      | some vs => some (v :: vs)
      | none => none
    | none => none
theorem AL_of_fits {a : Act} {w : World} {β : Names} (S : SatB C st a w β) : ∀ {os : List Operand} {xs : List XA} {vs : List AV}, fitsA os xs = true → evL st.sl xs = some vs → AL C.X β w vs (os.map a.eval)
  | [], [], vs, _, h => by simp only [evL, Option.some.injEq] at h; subst h; simp [AL]
  | o :: os, x :: xs, vs, hf, h => by
    simp only [fitsA, Bool.and_eq_true] at hf
    simp only [evL] at h
    split at h
    · rename_i v hv
      split at h
      · rename_i r hr
        cases h
        rw [List.map_cons, AL]
        exact ⟨_, _, rfl, AR_of_fitA S hf.1 hv, AL_of_fits S hf.2 hr⟩
      · cases h
    · cases h
  | [], _ :: _, _, hf, _ => by simp [fitsA] at hf
  | _ :: _, [], _, hf, _ => by simp [fitsA] at hf
end
end Go.AM

namespace Go.AM
mutual
/-- No reference to the name 'd'. -/
def nrA (d : Nat) : AV → Bool
  | .ptr e _ => !Nat.beq d e
  | .rptr e _ _ _ => !Nat.beq d e
  | .osl e _ _ _ => !Nat.beq d e
  | .oslc e _ _ _ _ => !Nat.beq d e
  | .agg cs => nrL d cs
  | .tup cs => nrL d cs
  | .fn _ cs => nrL d cs
  | .bfn _ cs => nrL d cs
  | _ => true
def nrL (d : Nat) : List AV → Bool
  | [] => true
  | x :: xs => nrA d x && nrL d xs
end
def nrS (d : Nat) : List (Nat × AV) → Bool
  | [] => true
  | (_, x) :: r => nrA d x && nrS d r
def nrO (d : Nat) : OB → Bool
  | .box cs => nrL d cs
  | .rows _ _ => true
  | .deep _ _ hs => hs.all (fun h => !Nat.beq d h.2.2)
  | .junk => true
def nrOs (d : Nat) : List (Nat × OB) → Bool
  | [] => true
  | (_, x) :: r => nrO d x && nrOs d r
mutual
theorem pg_nr (d : Nat) : ∀ x, nrA d x = true → pg (Nat.beq d) x = x
  | .ptr e o, h => by rw [nrA] at h; rw [pg]; cases hb : Nat.beq d e <;> simp_all
  | .rptr e sz i o, h => by rw [nrA] at h; rw [pg]; cases hb : Nat.beq d e <;> simp_all
  | .osl e sz s len, h => by rw [nrA] at h; rw [pg]; cases hb : Nat.beq d e <;> simp_all
  | .oslc e sz s len cap, h => by rw [nrA] at h; rw [pg]; cases hb : Nat.beq d e <;> simp_all
  | .agg cs, h => by rw [nrA] at h; rw [pg, pgL_nr d cs h]
  | .tup cs, h => by rw [nrA] at h; rw [pg, pgL_nr d cs h]
  | .fn f cs, h => by rw [nrA] at h; rw [pg, pgL_nr d cs h]
  | .bfn f cs, h => by rw [nrA] at h; rw [pg, pgL_nr d cs h]
  | .d x, _ => by rw [pg]
  | .zs _, _ => by rw [pg]
  | .raw v, _ => by rw [pg]
  | .dead, _ => by rw [pg]
theorem pgL_nr (d : Nat) : ∀ xs, nrL d xs = true → pgL (Nat.beq d) xs = xs
  | [], _ => by rw [pgL]
  | x :: xs, h => by
    rw [nrL, Bool.and_eq_true] at h
    rw [pgL, pg_nr d x h.1, pgL_nr d xs h.2]
end
theorem pgS_nr (d : Nat) : ∀ l, nrS d l = true → pgS (Nat.beq d) l = l
  | [], _ => rfl
  | (t, x) :: r, h => by
    rw [nrS, Bool.and_eq_true] at h
    rw [pgS, pg_nr d x h.1, pgS_nr d r h.2]
theorem pgO_nr (d : Nat) (x : OB) (h : nrO d x = true) : pgO (Nat.beq d) x = x := by
  cases x with
  | box cs => rw [nrO] at h; rw [pgO, pgL_nr d cs h]
  | rows sz rs => rfl
  | junk => rfl
  | deep sz rs hs =>
    rw [nrO] at h
    rw [pgO, show hs.any (fun h => Nat.beq d h.2.2) = false from List.any_eq_false.2 (fun q hq => by have := List.all_eq_true.1 h q hq; rw [Bool.not_eq_true'] at this; rw [this]; simp)]; rfl
theorem pgOs_nr (d : Nat) : ∀ l, nrOs d l = true → pgOs (Nat.beq d) l = l
  | [], _ => rfl
  | (t, x) :: r, h => by
    rw [nrOs, Bool.and_eq_true] at h
    rw [pgOs, pgO_nr d x h.1, pgOs_nr d r h.2]
def setN (β : Names) (d : Nat) (b : Option Nat) : Names := ⟨fun e => if e = d then b else β e, β.hd⟩
theorem setN_nm (β : Names) (d : Nat) (b : Option Nat) (e : Nat) : setN β d b e = if e = d then b else β e := rfl
theorem heap_push {w : World} {o : Obj} {b : Nat} (h : b < w.heap.size) : ({ w with heap := w.heap.push o } : World).heap[b]? = w.heap[b]? := by
  show (w.heap.push o)[b]? = _
  rw [Array.getElem?_push, if_neg (by omega)]
theorem heap_push_new {w : World} {o : Obj} : ({ w with heap := w.heap.push o } : World).heap[w.heap.size]? = some o := by
  show (w.heap.push o)[w.heap.size]? = _
  rw [Array.getElem?_push, if_pos rfl]
theorem Tr.alloc {X : Nat → Prop} {β : Names} {w : World} (o : Obj) (d : Nat) : Tr X X (Nat.beq d) β (setN β d (some w.heap.size)) w { w with heap := w.heap.push o } where
  keep := {
    size := by show w.heap.size ≤ (w.heap.push o).size; simp
    same := fun b _ hb => heap_push hb
    ok := fun b ⟨h1, h2⟩ hb => ⟨h1, fun e he => by
      rw [setN_nm] at he
      split at he
      · cases he; omega
      · exact h2 e he⟩ }
  name := fun e b hp hb => by
    rw [setN_nm]
    rw [if_neg (by rintro rfl; rw [show Nat.beq e e = true from by simp] at hp; cases hp)]
    exact hb
  bsize := fun e b c ty fr _ _ hh => ⟨c, ty, fr, by rw [heap_push (Array.getElem?_eq_some_iff.1 hh).1]; exact hh, rfl⟩
/-- A new own block. -/
theorem SatB.alloc {C : Cx} {sl : List (Nat × AV)} {own : List (Nat × OB)} {a : Act} {w : World} {β : Names} (S : SatB C ⟨sl, own⟩ a w β) {d : Nat} (hd : d < 1000 ∨ C.mv d = true) {o : Obj} {ob : OB}
    (hob : OBR C.X (setN β d (some w.heap.size)) { w with heap := w.heap.push o } ob (some w.heap.size) d) :
    SatB C ⟨pgS (Nat.beq d) sl, (d, ob) :: pgOs (Nat.beq d) own⟩ a { w with heap := w.heap.push o } (setN β d (some w.heap.size)) where
  tsize := S.tsize
  df := S.df
  slots := fun t x hx => by
    simp only [get_pgS, Option.map_eq_some_iff] at hx
    obtain ⟨y, hy, rfl⟩ := hx
    exact AR.pg (Tr.alloc o d) y _ (S.slots t y hy)
  hr := {
    inj := fun e e' b h h' => by
      rw [setN_nm] at h h'
      split at h <;> split at h'
      · rename_i h1 h2; rw [h1, h2]
      · cases h; have := S.hr.lt _ _ h'; omega
      · cases h'; have := S.hr.lt _ _ h; omega
      · exact S.hr.inj e e' b h h'
    lt := fun e b h => by
      have hs : ({ w with heap := w.heap.push o } : World).heap.size = w.heap.size + 1 := by show (w.heap.push o).size = _; simp
      rw [hs]
      rw [setN_nm] at h
      split at h
      · cases h; omega
      · have := S.hr.lt _ _ h; omega
    notX := fun e b h => by
      rw [setN_nm] at h
      split at h
      · cases h; intro hx
        rcases hx with hx | ⟨e', j, hx⟩
        · have := S.xlt _ hx; have := S.fr.size; omega
        · have := S.hr.hlt e' j _ hx; omega
      · exact S.hr.notX e b h
    hlt := fun e j b h => by
      have hs : ({ w with heap := w.heap.push o } : World).heap.size = w.heap.size + 1 := by show (w.heap.push o).size = _; simp
      have := S.hr.hlt e j b h
      rw [hs]; omega
    hinj := S.hr.hinj
    hX := S.hr.hX
    own := fun e q hq => by
      simp only [get_cons] at hq
      split at hq
      · rename_i h1
        cases hq
        have : setN β d (some w.heap.size) e = some w.heap.size := by rw [setN_nm]; rw [if_pos h1.symm]
        rw [this]; subst h1; exact hob
      · rename_i h1
        rw [get_pgOs, Option.map_eq_some_iff] at hq
        obtain ⟨q', hq', rfl⟩ := hq
        have : setN β d (some w.heap.size) e = β e := by rw [setN_nm]; rw [if_neg (Ne.symm h1)]
        rw [this]
        exact OBR.pg (Tr.alloc o d) (fun k hk => heap_push (S.hr.lt e k hk)) (fun j k hk => ⟨hk, heap_push (S.hr.hlt e j k hk)⟩) (S.hr.own e q' hq') }
  mine := fun b h => by
    rcases h with ⟨e, h⟩ | h
    · rw [setN_nm] at h
      split at h
      · cases h; exact .inl S.fr.size
      · exact S.mine b (.inl ⟨e, h⟩)
    · exact S.mine b (.inr h)
  stay := fun e he hm => by
    have : setN β d (some w.heap.size) e = β e := by
      rw [setN_nm]; rw [if_neg]
      rintro rfl
      rcases hd with hd | hd
      · omega
      · rw [hm] at hd; cases hd
    rw [this]; exact S.stay e he hm
  fr := {
    os := S.fr.os
    tape := S.fr.tape
    output := S.fr.output
    size := by have := S.fr.size; show _ ≤ (w.heap.push o).size; simp; omega
    same := fun b hb hn => (heap_push (by have := S.fr.size; omega)).trans (S.fr.same b hb hn)
    bsize := fun b c ty fr hb => by
      obtain ⟨c', ty', fr', h1, h2⟩ := S.fr.bsize b c ty fr hb
      exact ⟨c', ty', fr', by rw [heap_push (Array.getElem?_eq_some_iff.1 h1).1]; exact h1, h2⟩
    }
  xlt := S.xlt
/-- .. and none of the old state speaks of its name. -/
theorem SatB.alloc' {C : Cx} {sl : List (Nat × AV)} {own : List (Nat × OB)} {a : Act} {w : World} {β : Names} (S : SatB C ⟨sl, own⟩ a w β) {d : Nat} (hd : d < 1000) (h1 : nrS d sl = true) (h2 : nrOs d own = true) {o : Obj} {ob : OB}
    (hob : OBR C.X (setN β d (some w.heap.size)) { w with heap := w.heap.push o } ob (some w.heap.size) d) :
    SatB C ⟨sl, (d, ob) :: own⟩ a { w with heap := w.heap.push o } (setN β d (some w.heap.size)) := by
  have := S.alloc (.inl hd) hob
  rwa [pgS_nr d sl h1, pgOs_nr d own h2] at this
def setL {α : Type} : List α → Nat → List α → List α
  | l, _, [] => l
  | l, o, x :: xs => setL (l.set o x) (o + 1) xs
theorem setL_length {α : Type} : ∀ (xs l : List α) (o : Nat), (setL l o xs).length = l.length
  | [], l, o => rfl
  | x :: xs, l, o => by rw [setL, setL_length xs]; simp
theorem setL_get {α : Type} : ∀ (xs l : List α) (o j : Nat), o + xs.length ≤ l.length → (setL l o xs)[j]? = if o ≤ j ∧ j < o + xs.length then xs[j - o]? else l[j]?
  | [], l, o, j, _ => by rw [setL, if_neg (by simp)]
  | x :: xs, l, o, j, h => by
    simp only [List.length_cons] at h
    rw [setL, setL_get xs (l.set o x) (o + 1) j (by simp; omega)]
    by_cases h1 : o + 1 ≤ j ∧ j < o + 1 + xs.length
    · rw [if_pos h1, if_pos (by simp only [List.length_cons]; omega), show j - o = (j - (o + 1)) + 1 from by omega]; simp
    · rw [if_neg h1]
      by_cases h2 : j = o
      · subst h2
        rw [if_pos (by simp), List.getElem?_set, if_pos rfl, if_pos (by omega)]; simp
      · rw [if_neg (by simp only [List.length_cons]; omega), List.getElem?_set, if_neg (Ne.symm h2)]
theorem AL_set {X : Nat → Prop} {β : Names} {w : World} : ∀ {xs : List AV} {vs : List Value}, AL X β w xs vs → ∀ (o : Nat) {x : AV} {v : Value}, AR X β w x v → AL X β w (xs.set o x) (vs.set o v)
  | [], vs, h, o, x, v, _ => by rw [AL] at h; simp [h, AL]
  | y :: ys, vs, h, o, x, v, hx => by
    rw [AL] at h
    obtain ⟨u, r, rfl, h1, h2⟩ := h
    cases o with
    | zero => rw [List.set_cons_zero, List.set_cons_zero, AL]; exact ⟨v, r, rfl, hx, h2⟩
    | succ o => rw [List.set_cons_succ, List.set_cons_succ, AL]; exact ⟨u, _, rfl, h1, AL_set h2 o hx⟩
theorem AL_setL {X : Nat → Prop} {β : Names} {w : World} : ∀ {xs : List AV} {vs : List Value} {cells : List AV} {l : List Value} (o : Nat), AL X β w cells l → AL X β w xs vs → AL X β w (setL cells o xs) (setL l o vs)
  | [], vs, cells, l, o, h, h' => by rw [AL] at h'; subst h'; exact h
  | x :: xs, vs, cells, l, o, h, h' => by
    rw [AL] at h'
    obtain ⟨v, r, rfl, h1, h2⟩ := h'
    rw [setL, setL]
    exact AL_setL (o + 1) (AL_set h o h1) h2
theorem setCells_world (b : Nat) : ∀ (vs : List Value) (o : Nat) (w : World), (w.setCells b o vs).os = w.os ∧ (w.setCells b o vs).tape = w.tape ∧ ((w.setCells b o vs).output = w.output ∧ w.drawn ≤ (w.setCells b o vs).drawn) ∧
    (w.setCells b o vs).heap.size = w.heap.size ∧ (∀ k, k ≠ b → (w.setCells b o vs).heap[k]? = w.heap[k]?) ∧
    (∀ c ty fr, w.heap[b]? = some (.cells c ty fr) → (w.setCells b o vs).heap[b]? = some (.cells (setL c.toList o vs).toArray ty fr))
  | [], o, w => ⟨rfl, rfl, ⟨rfl, Nat.le_refl _⟩, rfl, fun _ _ => rfl, fun c ty fr h => by simpa [World.setCells, setL] using h⟩
  | v :: vs, o, w => by
    obtain ⟨h1, h2, h3, h4, h5, h6⟩ := setCells_world b vs (o + 1) (w.setCell ⟨b, o, none⟩ v)
    refine ⟨h1, h2, h3, by rw [World.setCells, h4]; simp, fun k hk => ?_, fun c ty fr h => ?_⟩
    · rw [World.setCells, h5 k hk]
      simp only [World.setCell, Array.getElem?_modify]
      rw [if_neg (by omega)]
    · have : (w.setCell ⟨b, o, none⟩ v).heap[b]? = some (.cells (c.setIfInBounds o v) ty fr) := by
        simp [World.setCell, Array.getElem?_modify, h]
      rw [World.setCells, h6 _ _ _ this]
      simp [setL]
/-- One own block is written over, its size and its being free kept. -/
theorem Tr.store {X : Nat → Prop} {β : Names} {w w' : World} {e b : Nat} (hb : β e = some b) (hs : w'.heap.size = w.heap.size) (ho : ∀ k, k ≠ b → w'.heap[k]? = w.heap[k]?)
    (hc : ∀ c ty fr, w.heap[b]? = some (.cells c ty fr) → ∃ c' ty' fr', w'.heap[b]? = some (.cells c' ty' fr') ∧ c'.size = c.size) : Tr X X (fun _ => false) β β w w' where
  keep := ⟨by omega, fun k hk _ => ho k (fun h => hk.2 e (by rw [h]; exact hb)), fun k hk _ => hk⟩
  name := fun _ _ _ h => h
  bsize := fun e' k c ty fr _ _ hh => by
    by_cases h : k = b
    · subst h; exact hc c ty fr hh
    · exact ⟨c, ty, fr, by rw [ho k h]; exact hh, rfl⟩
theorem SatB.store {C : Cx} {sl : List (Nat × AV)} {own : List (Nat × OB)} {a : Act} {w w' : World} {β : Names} (S : SatB C ⟨sl, own⟩ a w β) {e b : Nat} (hb : β e = some b)
    (hw : w'.os = w.os ∧ w'.tape = w.tape ∧ (w'.output = w.output ∧ w.drawn ≤ w'.drawn)) (hs : w'.heap.size = w.heap.size) (ho : ∀ k, k ≠ b → w'.heap[k]? = w.heap[k]?)
    (hc : ∀ c ty fr, w.heap[b]? = some (.cells c ty fr) → ∃ c' ty' fr', w'.heap[b]? = some (.cells c' ty' fr') ∧ c'.size = c.size)
    {ob : OB} (hob : OBR C.X β w' ob (some b) e) : SatB C ⟨sl, (e, ob) :: own⟩ a w' β where
  tsize := S.tsize
  df := S.df
  slots := fun t x hx => (S.slots t x hx).tr (Tr.store hb hs ho hc)
  hr := {
    inj := S.hr.inj
    lt := fun e' k h => by rw [hs]; exact S.hr.lt e' k h
    notX := S.hr.notX
    hlt := fun e' j k h => by rw [hs]; exact S.hr.hlt e' j k h
    hinj := S.hr.hinj
    hX := S.hr.hX
    own := fun e' q hq => by
      simp only [get_cons] at hq
      split at hq
      · rename_i h1
        cases hq; subst h1
        rw [hb]; exact hob
      · rename_i h1
        have := OBR.pg (Tr.store (X := C.X) hb hs ho hc) (b := β e') (fun k hk => ho k (fun h => h1 (S.hr.inj e e' b hb (by rw [← h]; exact hk)))) (fun j k hk => ⟨hk, ho k (fun h => S.hr.notX e b hb (.inr ⟨e', j, by rw [← h]; exact hk⟩))⟩) (S.hr.own e' q hq)
        rwa [pgO_id _ (fun _ => rfl)] at this }
  mine := S.mine
  stay := S.stay
  fr := {
    os := hw.1.trans S.fr.os
    tape := hw.2.1.trans S.fr.tape
    output := hw.2.2.1.trans S.fr.output
    size := by rw [hs]; exact S.fr.size
    same := fun k hk hn => by
      have hne : k ≠ b := fun h => by
        subst h
        rcases S.mine k (.inl ⟨e, hb⟩) with h1 | h1
        · omega
        · exact hn h1
      exact (ho k hne).trans (S.fr.same k hk hn)
    bsize := fun k c ty fr hk => by
      obtain ⟨c', ty', fr', h1, h2⟩ := S.fr.bsize k c ty fr hk
      by_cases hkb : k = b
      · subst hkb
        obtain ⟨c2, ty2, fr2, h3, h4⟩ := hc c' ty' fr' h1
        exact ⟨c2, ty2, fr2, h3, h4.trans h2⟩
      · exact ⟨c', ty', fr', by rw [ho k hkb]; exact h1, h2⟩
    }
  xlt := S.xlt
end Go.AM

namespace Go.AM
/-- The cells of what is stored. -/
def cellsA : AV → Option (List AV)
  | .agg cs => some cs
  | .d x => some [.d x]
  | .zs sz => some [.zs sz]
  | .ptr e o => some [.ptr e o]
  | .rptr e sz i o => some [.rptr e sz i o]
  | .osl e sz s len => some [.osl e sz s len]
  | .fn f cs => some [.fn f cs]
  | .bfn f cs => some [.bfn f cs]
  | .raw .nilFunc => some [.raw .nilFunc]
  | .raw .nilIface => some [.raw .nilIface]
  | _ => none
/-- One cell, and nothing else. -/
def oneA : AV → Bool
  | .d _ | .zs _ | .ptr _ _ | .rptr _ _ _ _ | .osl _ _ _ _ | .fn _ _ | .bfn _ _ | .raw .nilFunc | .raw .nilIface => true
  | _ => false
def onesA : List AV → Bool
  | [] => true
  | x :: xs => oneA x && onesA xs
/-- The cells as pure data. -/
def toDs : List AV → Option (List D)
  | [] => some []
  | .d x :: xs => match toDs xs with | some r => some (x :: r) | none => none
  | .zs sz :: xs => match toDs xs with | some r => some (.sl sz [] :: r) | none => none
  | _ => none
section
variable {X : Nat → Prop} {β : Names} {w : World}
theorem DR_one : ∀ {x : D} {v : Value}, ∀ {ok : Nat → Prop}, DR w ok x v → v.cells = #[v] ∧ v.oneCell' = true := by
  intro x v ok h
  cases x <;> rw [DR] at h
  · subst h; exact ⟨rfl, rfl⟩
  · subst h; exact ⟨rfl, rfl⟩
  · subst h; exact ⟨rfl, rfl⟩
  · obtain ⟨a, cap, rfl, _⟩ := h; exact ⟨rfl, rfl⟩
  · obtain ⟨b, o, rfl, _⟩ := h; exact ⟨rfl, rfl⟩
  · obtain ⟨vs, rfl, _⟩ := h; exact ⟨rfl, rfl⟩
  · subst h; exact ⟨rfl, rfl⟩
theorem one_of {x : AV} {v : Value} (h1 : oneA x = true) (h : AR X β w x v) : v.cells = #[v] ∧ v.oneCell' = true := by
  cases x with
  | d x => rw [AR] at h; exact DR_one h
  | zs sz => rw [AR] at h; obtain ⟨a, rfl⟩ := h; exact ⟨rfl, rfl⟩
  | ptr e o => rw [AR] at h; obtain ⟨b, _, rfl⟩ := h; exact ⟨rfl, rfl⟩
  | rptr e sz i o => rw [AR] at h; obtain ⟨b, _, rfl⟩ := h; exact ⟨rfl, rfl⟩
  | osl e sz s len => rw [AR] at h; obtain ⟨a, cap, rfl, _⟩ := h; exact ⟨rfl, rfl⟩
  | oslc e sz s len cap => cases h1
  | fn f cs => rw [AR] at h; obtain ⟨vs, rfl, _⟩ := h; exact ⟨rfl, rfl⟩
  | bfn f cs => rw [AR] at h; obtain ⟨vs, rfl, _⟩ := h; exact ⟨rfl, rfl⟩
  | raw u =>
    rw [AR] at h; subst h
    cases v <;> first | exact ⟨rfl, rfl⟩ | (simp [oneA] at h1)
  | agg cs => cases h1
  | tup cs => cases h1
  | dead => cases h1
theorem AL_single {x : AV} {v : Value} (h : AR X β w x v) : AL X β w [x] [v] := by
  rw [AL]; exact ⟨v, [], rfl, h, by rw [AL]⟩
theorem cellsA_AL {x : AV} {cs : List AV} {v : Value} (hc : cellsA x = some cs) (h : AR X β w x v) : AL X β w cs v.cells.toList := by
  by_cases h1 : oneA x = true
  · obtain ⟨h2, h3⟩ := one_of h1 h
    have : cs = [x] := by
      cases x <;> first | (simp [oneA] at h1; done) | (simp only [cellsA, Option.some.injEq] at hc; exact hc.symm) | skip
      rename_i u
      cases u <;> first | (simp only [cellsA, Option.some.injEq] at hc; exact hc.symm) | (simp [oneA] at h1)
    subst this
    rw [h2]
    exact AL_single h
  · cases x with
    | agg cs' =>
      simp only [cellsA, Option.some.injEq] at hc; subst hc
      rw [AR] at h; obtain ⟨vs, rfl, h⟩ := h; exact h
    | tup cs' => cases hc
    | dead => cases hc
    | oslc e sz s len cap => cases hc
    | raw u => cases u <;> first | (cases hc; done) | exact absurd rfl h1
    | _ => exact absurd rfl h1
theorem ones_AL : ∀ {xs : List AV} {vs : List Value}, onesA xs = true → AL X β w xs vs → ∀ v ∈ vs, v.oneCell' = true
  | [], vs, _, h, v, hv => by rw [AL] at h; subst h; cases hv
  | x :: xs, vs, h1, h, v, hv => by
    rw [AL] at h
    obtain ⟨u, r, rfl, h2, h3⟩ := h
    simp only [onesA, Bool.and_eq_true] at h1
    rcases List.mem_cons.1 hv with rfl | hv
    · exact (one_of h1.1 h2).2
    · exact ones_AL h1.2 h3 v hv
theorem toDs_DL : ∀ {xs : List AV} {ds : List D} {vs : List Value}, toDs xs = some ds → AL X β w xs vs → DL w (okf X β) ds vs
  | [], ds, vs, h, h' => by simp only [toDs, Option.some.injEq] at h; subst h; rw [AL] at h'; rw [DL]; exact h'
  | x :: xs, ds, vs, h, h' => by
    rw [AL] at h'
    obtain ⟨v, r, rfl, h1, h2⟩ := h'
    cases x with
    | d x =>
      simp only [toDs] at h
      cases ht : toDs xs with
      | none => rw [ht] at h; cases h
      | some q =>
        rw [ht] at h; simp only [Option.some.injEq] at h; subst h
        rw [AR] at h1
        rw [DL]; exact ⟨v, r, rfl, h1, toDs_DL ht h2⟩
    | zs sz =>
      simp only [toDs] at h
      cases ht : toDs xs with
      | none => rw [ht] at h; cases h
      | some q =>
        rw [ht] at h; simp only [Option.some.injEq] at h; subst h
        rw [AR] at h1
        obtain ⟨a, rfl⟩ := h1
        rw [DL]; exact ⟨_, r, rfl, by rw [DR]; exact ⟨a, 0, rfl, Nat.le_refl _, .inl rfl⟩, toDs_DL ht h2⟩
    | _ => simp [toDs] at h
theorem toDs_len : ∀ {xs : List AV} {ds : List D}, toDs xs = some ds → ds.length = xs.length
  | [], ds, h => by simp only [toDs, Option.some.injEq] at h; subst h; rfl
  | x :: xs, ds, h => by
    cases x with
    | d x =>
      simp only [toDs] at h
      cases ht : toDs xs with
      | none => rw [ht] at h; cases h
      | some q => rw [ht] at h; simp only [Option.some.injEq] at h; subst h; simp [toDs_len ht]
    | zs sz =>
      simp only [toDs] at h
      cases ht : toDs xs with
      | none => rw [ht] at h; cases h
      | some q => rw [ht] at h; simp only [Option.some.injEq] at h; subst h; simp [toDs_len ht]
    | _ => simp [toDs] at h
theorem fitZ_AL : ∀ {vs : List Value} {zs : List K}, fitZ vs zs = true → AL X β w (zs.map K.av) vs
  | [], [], _ => by simp [AL]
  | v :: vs, c :: cs, h => by
    simp only [fitZ, Bool.and_eq_true] at h
    rw [List.map_cons, AL]
    exact ⟨v, vs, rfl, AR_of_fitK h.1, fitZ_AL h.2⟩
  | [], _ :: _, h => by simp [fitZ] at h
  | _ :: _, [], h => by simp [fitZ] at h
end
theorem zeroIs_some {P : Program} {t : TypeId} {zs : List K} (h : zeroIs P t zs = true) : ∃ i v, P.info? t = some i ∧ i.zero = some v ∧ fitZ v.cells.toList zs = true ∧ i.size = zs.length := by
  unfold zeroIs at h
  split at h
  · rename_i i hi
    split at h
    · rename_i v hv
      simp only [Bool.and_eq_true] at h
      exact ⟨i, v, hi, hv, h.1, Nat.eq_of_beq_eq_true h.2⟩
    · cases h
  · cases h
/-- A step with an effect. -/
def EStep (C : Cx) (st : St) (d : Option Nat) (x : XOp) (st' : St) : Prop :=
  ∀ o, o.dst = d → (∀ k, d = some k → k < C.n) → fits C.P o x = true → ∀ a w β, SatB C st a w β → ∃ r w' β', (execOp a.eval o).run C.P w = .ok r w' ∧
    ((r = .skip ∧ SatB C st' (a.put d undef) w' β') ∨ ∃ v, r = .value v ∧ SatB C st' (a.put d v) w' β')
section
variable {C : Cx} {sl : List (Nat × AV)} {own : List (Nat × OB)}
theorem thaw_none (n : Nat) : thaw (0, 0) n := fun o _ h => by simp at h
theorem box_new {X : Nat → Prop} {β : Names} {w : World} {d : Nat} (cs : List AV) (c : Array Value) (ty : TypeId) (h : AL X β w cs c.toList) (hn : nrL d cs = true) :
    OBR X (setN β d (some w.heap.size)) { w with heap := w.heap.push (.cells c ty) } (.box cs) (some w.heap.size) d := by
  refine ⟨c, ty, (0, 0), heap_push_new, thaw_none _, ?_⟩
  have := AL.pg (Tr.alloc (X := X) (β := β) (w := w) (.cells c ty) d) cs _ h
  rwa [pgL_nr d cs hn] at this
theorem nrK (d : Nat) : ∀ zs : List K, nrL d (zs.map K.av) = true
  | [] => rfl
  | c :: cs => by
    rw [List.map_cons, nrL, nrK d cs]
    cases c <;> rfl
theorem e_alloc {d : Nat} {zs : List K} (hd' : d < 1000) (h1 : nrS d sl = true) (h2 : nrOs d own = true) :
    EStep C ⟨sl, own⟩ (some d) (.alloc zs) ⟨(d, .ptr d 0) :: sl, (d, .box (zs.map K.av)) :: own⟩ := by
  intro o ho hd hf a w β S
  have hd := hd _ rfl
  simp only [fits] at hf
  split at hf
  · rename_i t hop
    obtain ⟨i, v, hi, hv, hz, hs⟩ := zeroIs_some hf
    refine ⟨_, { w with heap := w.heap.push (.cells v.cells t) }, setN β d (some w.heap.size), ?_, .inr ⟨.pointer (some ⟨w.heap.size, 0, none⟩), rfl, ?_⟩⟩
    · simp [execOp, hop, Instr.alloc, zeroValue, typeInfo, hi, hv, newVar, newRow, newObj, Sem.run]
    · refine (S.alloc' hd' h1 h2 (box_new _ _ _ (fitZ_AL hz) (nrK d zs))).put hd ?_
      rw [AR]
      exact ⟨w.heap.size, by simp [setN_nm], rfl⟩
  · cases hf
theorem e_box {d : Nat} {x : XA} {v : AV} {cs : List AV} (hx : evA sl x = some v) (hc : cellsA v = some cs) (hd' : d < 1000) (h1 : nrS d sl = true) (h2 : nrOs d own = true) (h3 : nrL d cs = true) :
    EStep C ⟨sl, own⟩ (some d) (.box x) ⟨(d, .ptr d 0) :: sl, (d, .box cs) :: own⟩ := by
  intro o ho hd hf a w β S
  have hd := hd _ rfl
  simp only [fits] at hf
  split at hf
  · rename_i t y hop
    have h4 := AR_of_fitA S hf hx
    refine ⟨_, { w with heap := w.heap.push (.cells (a.eval y).cells t) }, setN β d (some w.heap.size), ?_, .inr ⟨.pointer (some ⟨w.heap.size, 0, none⟩), rfl, ?_⟩⟩
    · simp [execOp, hop, Instr.box, newVar, newRow, newObj, Sem.run]
    · refine (S.alloc' hd' h1 h2 (box_new _ _ _ (cellsA_AL hc h4) h3)).put hd ?_
      rw [AR]
      exact ⟨w.heap.size, by simp [setN_nm], rfl⟩
  · cases hf
theorem storeAt_run {P : Program} {w : World} {t : TypeId} {b o n : Nat} {v : Value} (hn : szIs P t n = true) (hv : v.cells.size = n) (h1 : ∀ u ∈ v.cells.toList, u.oneCell' = true)
    {c : Array Value} {ty : TypeId} {fr : Nat × Nat} (hb : w.heap[b]? = some (.cells c ty fr)) (ht : thaw fr c.size) (hl : o + n ≤ c.size) :
    (Instr.storeAt t (.pointer (some ⟨b, o, none⟩)) v).run P w = .ok () (w.setCells b o v.cells.toList) := by
  have hr := run_storeCells_cells (P := P) b o v.cells.toList 0 w
    (fun j hj => by
      have hj : j < n := by rw [← hv]; simpa using hj
      simp [World.cell?, hb]; omega)
    (fun j hj => by
      have hj : j < n := by rw [← hv]; simpa using hj
      have h2 := ht (o + 0 + j) (by omega)
      obtain ⟨lo, hi⟩ := fr
      have h2' : ¬(lo ≤ o + 0 + j ∧ o + 0 + j < hi) := h2
      have : (decide (lo ≤ o + 0 + j) && decide (o + 0 + j < hi)) = false := by
        rw [← Bool.decide_and]; exact decide_eq_false h2'
      simp only [World.frozen?, hb, this])
    h1
  rw [Nat.add_zero] at hr
  simp only [Instr.storeAt, Instr.sureAddr, Sem.run_bind, Sem.run_pure, Result.andThen_ok, storeVar, szIs_some hn, hv, ne_eq, not_true_eq_false, if_false, hr]
theorem storeOp_run {P : Program} {op : Oper} {n : Nat} {x y : XA} (hf : fits P op (.store n x y) = true) : ∃ t p q, op.op = .store t p q ∧ szIs P t n = true ∧ fitA p x = true ∧ fitA q y = true := by
  simp only [fits] at hf
  split at hf
  · rename_i t p q ho
    simp only [Bool.and_eq_true] at hf
    exact ⟨t, p, q, ho, hf.1.1, hf.1.2, hf.2⟩
  · cases hf
theorem e_store_ptr {n e o : Nat} {x y : XA} {v : AV} {cells cs : List AV} (hx : evA sl x = some (.ptr e o)) (he : get own e = some (.box cells)) (hy : evA sl y = some v) (hc : cellsA v = some cs)
    (h1 : onesA cs = true) (hn : cs.length = n) (hl : o + n ≤ cells.length) : EStep C ⟨sl, own⟩ none (.store n x y) ⟨sl, (e, .box (setL cells o cs)) :: own⟩ := by
  intro op hd _ hf a w β S
  obtain ⟨t, p, q, hop, hz, hp, hq⟩ := storeOp_run hf
  have h3 := AR_of_fitA S hp hx
  have h4 := AR_of_fitA S hq hy
  rw [AR] at h3
  obtain ⟨b, hb, h3⟩ := h3
  have hob := S.hr.own e _ he
  rw [hb] at hob
  obtain ⟨c, ty, fr, h5, h6, h7⟩ := hob
  have h8 := cellsA_AL hc h4
  have h9 : (a.eval q).cells.size = n := by have := AL_len h8; rw [← hn, ← this]; simp
  have h10 : c.size = cells.length := by have := AL_len h7; rw [← this]; simp
  have hrun := storeAt_run (o := o) hz h9 (ones_AL h1 h8) h5 h6 (by omega)
  obtain ⟨w1, w2, w3, w4, w5, w6⟩ := setCells_world b (a.eval q).cells.toList o w
  refine ⟨.skip, w.setCells b o (a.eval q).cells.toList, β, by simp only [execOp, hop, h3, Sem.run_bind, hrun, Result.andThen_ok, Sem.run_pure], .inl ⟨rfl, ?_⟩⟩
  have hcc : ∀ c' ty' fr', w.heap[b]? = some (.cells c' ty' fr') → ∃ c'' ty'' fr'', (w.setCells b o (a.eval q).cells.toList).heap[b]? = some (.cells c'' ty'' fr'') ∧ c''.size = c'.size := fun c' ty' fr' h =>
    ⟨_, _, _, w6 c' ty' fr' h, by simp [setL_length]⟩
  refine S.store hb ⟨w1, w2, w3⟩ w4 w5 hcc ?_
  refine ⟨_, ty, fr, w6 c ty fr h5, by simpa [setL_length] using h6, ?_⟩
  have T := Tr.store (X := C.X) hb w4 w5 hcc
  simpa using AL_setL o (h7.tr T) (h8.tr T)
theorem e_store_rptr {n e sz i o : Nat} {x y : XA} {v : AV} {rs : List (List D)} {row : List D} {cs : List AV} {ds : List D} (hx : evA sl x = some (.rptr e sz i o)) (he : get own e = some (.rows sz rs))
    (hy : evA sl y = some v) (hc : cellsA v = some cs) (hds : toDs cs = some ds) (hn : ds.length = n) (hr : rs[i]? = some row) (hl : o + n ≤ sz) :
    EStep C ⟨sl, own⟩ none (.store n x y) ⟨sl, (e, .rows sz (rs.set i (setL row o ds))) :: own⟩ := by
  intro op hd _ hf a w β S
  obtain ⟨t, p, q, hop, hz, hp, hq⟩ := storeOp_run hf
  have h3 := AR_of_fitA S hp hx
  have h4 := AR_of_fitA S hq hy
  rw [AR] at h3
  obtain ⟨b, hb, h3⟩ := h3
  have hob := S.hr.own e _ he
  rw [hb] at hob
  obtain ⟨c, ty, fr, h5, h6, h7, h7'⟩ := hob
  have h8 := cellsA_AL hc h4
  have hD := toDs_DL hds h8
  have h9 : (a.eval q).cells.size = n := by have := AL_len h8; rw [← hn, toDs_len hds, ← this]; simp
  have hi : i < rs.length := by
    rcases Nat.lt_or_ge i rs.length with h | h
    · exact h
    · rw [List.getElem?_eq_none h] at hr; cases hr
  have hsz : i * sz + sz ≤ c.size := by
    have : (i + 1) * sz ≤ rs.length * sz := Nat.mul_le_mul_right _ hi
    rw [Nat.succ_mul] at this; omega
  have h1 : ∀ u ∈ (a.eval q).cells.toList, u.oneCell' = true := by
    have : ∀ {ds : List D} {vs : List Value}, DL w (okf C.X β) ds vs → ∀ u ∈ vs, u.oneCell' = true := by
      intro ds
      induction ds with
      | nil => intro vs h u hu; rw [DL] at h; subst h; cases hu
      | cons x xs ih =>
        intro vs h u hu
        rw [DL] at h
        obtain ⟨v, r, rfl, h2, h3⟩ := h
        rcases List.mem_cons.1 hu with rfl | hu
        · exact (DR_one h2).2
        · exact ih h3 u hu
    exact this hD
  have hrun := storeAt_run (o := i * sz + o) hz h9 h1 h5 h6.1 (by omega)
  obtain ⟨w1, w2, w3, w4, w5, w6⟩ := setCells_world b (a.eval q).cells.toList (i * sz + o) w
  refine ⟨.skip, w.setCells b (i * sz + o) (a.eval q).cells.toList, β, by simp only [execOp, hop, h3, Sem.run_bind, hrun, Result.andThen_ok, Sem.run_pure], .inl ⟨rfl, ?_⟩⟩
  have hcc : ∀ c' ty' fr', w.heap[b]? = some (.cells c' ty' fr') → ∃ c'' ty'' fr'', (w.setCells b (i * sz + o) (a.eval q).cells.toList).heap[b]? = some (.cells c'' ty'' fr'') ∧ c''.size = c'.size := fun c' ty' fr' h =>
    ⟨_, _, _, w6 c' ty' fr' h, by simp [setL_length]⟩
  refine S.store hb ⟨w1, w2, w3⟩ w4 w5 hcc ?_
  have T := Tr.store (X := C.X) hb w4 w5 hcc
  refine ⟨_, ty, fr, w6 c ty fr h5, by simpa [setL_length] using h6, by simpa [setL_length] using h7, ?_⟩
  have h11 : ((a.eval q).cells.toList).length = n := by simpa using h9
  have hq2 : ∀ p, (setL c.toList (i * sz + o) (a.eval q).cells.toList).toArray[p]? = if i * sz + o ≤ p ∧ p < i * sz + o + n then (a.eval q).cells.toList[p - (i * sz + o)]? else c[p]? := by
    intro p
    have := setL_get (a.eval q).cells.toList c.toList (i * sz + o) p (by rw [h11]; simp; omega)
    simp only [h11] at this
    simpa using this
  have hrl : row.length = sz := (h7' i row hr).1
  intro k r hk
  rw [List.getElem?_set] at hk
  by_cases hik : i = k
  · subst hik
    rw [if_pos rfl, if_pos hi] at hk
    simp only [Option.some.injEq] at hk
    subst hk
    refine ⟨by rw [setL_length]; exact hrl, fun j x hj => ?_⟩
    rw [setL_get ds row o j (by rw [hn, hrl]; exact hl)] at hj
    rw [hq2]
    by_cases hjo : o ≤ j ∧ j < o + ds.length
    · rw [if_pos hjo] at hj
      rw [if_pos (by omega), show i * sz + j - (i * sz + o) = j - o from by omega]
      have hgo : ∀ {ds : List D} {vs : List Value}, DL w (okf C.X β) ds vs → ∀ (j : Nat) x, ds[j]? = some x → ∃ v, vs[j]? = some v ∧ DR w (okf C.X β) x v := by
        intro ds
        induction ds with
        | nil => intro vs h j x hx; simp at hx
        | cons y ys ih =>
          intro vs h j x hx
          rw [DL] at h
          obtain ⟨v, r, rfl, h2, h3⟩ := h
          cases j with
          | zero => simp at hx; subst hx; exact ⟨v, by simp, h2⟩
          | succ j => simp at hx; simpa using ih h3 j x hx
      obtain ⟨u, hu, hxu⟩ := hgo hD _ _ hj
      exact ⟨u, hu, DR.mono T.keep _ _ hxu⟩
    · rw [if_neg hjo] at hj
      rw [if_neg (by omega)]
      obtain ⟨u, hu, hxu⟩ := (h7' i row hr).2 j x hj
      exact ⟨u, hu, DR.mono T.keep _ _ hxu⟩
  · rw [if_neg hik] at hk
    obtain ⟨h12, h13⟩ := h7' k r hk
    refine ⟨h12, fun j x hj => ?_⟩
    obtain ⟨u, hu, hxu⟩ := h13 j x hj
    refine ⟨u, ?_, DR.mono T.keep _ _ hxu⟩
    rw [hq2, if_neg, hu]
    have hj' : j < sz := by
      rw [← h12]
      rcases Nat.lt_or_ge j r.length with h | h
      · exact h
      · rw [List.getElem?_eq_none h] at hj; cases hj
    rintro ⟨h14, h15⟩
    rcases Nat.lt_or_gt_of_ne hik with h | h
    · have : (i + 1) * sz ≤ k * sz := Nat.mul_le_mul_right _ h
      rw [Nat.succ_mul] at this; omega
    · have : (k + 1) * sz ≤ i * sz := Nat.mul_le_mul_right _ h
      rw [Nat.succ_mul] at this; omega
end
end Go.AM

namespace Go.AM
/-- The items of a region. -/
inductive XI where
  | op (d : Option Nat) (x : XOp)
  | call (d : Option Nat) (f : Nat) (args : List XA)
  | callv (d : Option Nat) (f : XA) (args : List XA)
  | andor (d : Nat) (b : Bool) (j c : Nat) (grp : List XI) (s : XA)
  deriving Inhabited
structure Gd where
  j : Nat
  b : Bool
  c : Nat
def guardIs (o : Oper) : List Gd → Bool
  | [] => o.guard.isNone
  | g :: _ => match o.guard with
    | some (j, b) => Nat.beq j g.j && (b == g.b)
    | none => false
def dstIs : Option Nat → Option Nat → Bool
  | none, none => true
  | some a, some b => Nat.beq a b
  | _, _ => false
def dstFree (n : Nat) (gs : List Gd) : Option Nat → Bool
  | none => true
  | some d => Nat.ble (d + 1) n && gs.all fun g => !Nat.beq d g.c
/-- A function with a body, that is entered by a call. -/
def hasBody (P : Program) (f : Nat) : Bool :=
  match P.funcs[f]? with
  | some fn => fn.body.isSome && !(fn.name == "runtime.NumGoroutine")
  | none => false
mutual
def fitI (P : Program) (n : Nat) (ops : Array Oper) (gs : List Gd) (lo : Nat) : XI → Nat → Option Nat
  | .op d x, i => match ops[i]? with
    | some o => bif guardIs o gs && dstIs o.dst d && dstFree n gs d && fits P o x then some (i + 1) else none
    | none => none
  | .call d f args, i => match ops[i]? with
    | some o => match o.op with
      | .call { callee := .value (.func g), args := as, .. } => bif guardIs o gs && dstIs o.dst d && dstFree n gs d && Nat.beq f g && hasBody P f && fitsA as.toList args then some (i + 1) else none
      | _ => none
    | none => none
  | .callv d x args, i => match ops[i]? with
    | some o => match o.op with
      | .call { callee := .value y, args := as, .. } => bif guardIs o gs && dstIs o.dst d && dstFree n gs d && fitA y x && fitsA as.toList args then some (i + 1) else none
      | _ => none
    | none => none
  | .andor d b j c grp s, i =>
    bif Nat.ble lo j && Nat.ble (j + 1) i && Nat.ble (c + 1) n && dstIs ((ops[j]?).bind (·.dst)) (some c) then
      match fitIs P n ops (⟨j, b, c⟩ :: gs) i grp i with
      | some k => match ops[k]? with
        | some o => match o.op with
          | .pick p x y => bif guardIs o gs && dstIs o.dst (some d) && dstFree n gs (some d) && fitA p (.t c) &&
              (bif b then fitA x s && fitA y (.k (.bool false)) else fitA x (.k (.bool true)) && fitA y s) then some (k + 1) else none
          | _ => none
        | none => none
      | none => none
    else none
def fitIs (P : Program) (n : Nat) (ops : Array Oper) (gs : List Gd) (lo : Nat) : List XI → Nat → Option Nat
  | [], i => some i
  | x :: xs, i => match fitI P n ops gs lo x i with
    | some k => fitIs P n ops gs lo xs k
    | none => none
end
theorem bif_some {α : Type} {b : Bool} {x k : α} (h : (bif b then some x else none) = some k) : b = true ∧ x = k := by
  cases b
  · cases h
  · cases h; exact ⟨rfl, rfl⟩
theorem bif_match {α : Type} {b : Bool} {x : Option α} {k : α} (h : (bif b then x else none) = some k) : b = true ∧ x = some k := by
  cases b
  · cases h
  · exact ⟨rfl, h⟩
mutual
theorem fitI_le (P : Program) (n : Nat) (ops : Array Oper) : ∀ (x : XI) (gs : List Gd) (lo i k : Nat), fitI P n ops gs lo x i = some k → i < k
  | .op d x, gs, lo, i, k, h => by
    rw [fitI] at h
    split at h
    · have := (bif_some h).2; omega
    · cases h
  | .call d f args, gs, lo, i, k, h => by
    rw [fitI] at h
    split at h
    · split at h
      · have := (bif_some h).2; omega
      · cases h
    · cases h
  | .callv d x args, gs, lo, i, k, h => by
    rw [fitI] at h
    split at h
    · split at h
      · have := (bif_some h).2; omega
      · cases h
    · cases h
  | .andor d b j c grp s, gs, lo, i, k, h => by
    rw [fitI] at h
    have h := (bif_match h).2
    split at h
    · rename_i m hm
      have := fitIs_le P n ops grp _ _ i m hm
      split at h
      · split at h
        · have := (bif_some h).2; omega
        · cases h
      · cases h
    · cases h
theorem fitIs_le (P : Program) (n : Nat) (ops : Array Oper) : ∀ (xs : List XI) (gs : List Gd) (lo i k : Nat), fitIs P n ops gs lo xs i = some k → i ≤ k
  | [], gs, lo, i, k, h => by rw [fitIs] at h; cases h; omega
  | x :: xs, gs, lo, i, k, h => by
    rw [fitIs] at h
    split at h
    · rename_i m hm
      have h1 := fitI_le P n ops x gs lo i m hm
      have h2 := fitIs_le P n ops xs gs lo m k h
      omega
    · cases h
end
/-- The guards hold. -/
def GdS (ops : Array Oper) (gs : List Gd) (a : Act) : Prop := ∀ g ∈ gs, (ops[g.j]?).bind (·.dst) = some g.c ∧ a.tmps[g.c]? = some (.bool g.b)
theorem yielded_of {ops : Array Oper} {a : Act} {j c : Nat} {v : Bool} (h1 : (ops[j]?).bind (·.dst) = some c) (h2 : a.tmps[c]? = some (.bool v)) : yielded ops a.tmps j = some v := by
  simp [yielded, h1, h2]
theorem wanted_of {ops : Array Oper} {gs : List Gd} {a : Act} {o : Oper} (hg : guardIs o gs = true) (h : GdS ops gs a) : Region.wanted o (yielded ops a.tmps) = true := by
  unfold Region.wanted
  cases gs with
  | nil =>
    simp only [guardIs, Option.isNone_iff_eq_none] at hg
    rw [hg]
  | cons g gs =>
    simp only [guardIs] at hg
    split at hg
    · rename_i j b hj
      simp only [Bool.and_eq_true, beq_iff_eq] at hg
      obtain ⟨h1, h2⟩ := hg
      have h1 := Nat.eq_of_beq_eq_true h1
      subst h1 h2
      obtain ⟨h3, h4⟩ := h g (List.mem_cons_self)
      rw [hj]
      simp [yielded_of h3 h4]
    · cases hg
theorem GdS.put {ops : Array Oper} {gs : List Gd} {a : Act} {n : Nat} {d : Option Nat} {v : Value} (h : GdS ops gs a) (hd : dstFree n gs d = true) : GdS ops gs (a.put d v) := by
  intro g hg
  obtain ⟨h1, h2⟩ := h g hg
  refine ⟨h1, ?_⟩
  cases d with
  | none => exact h2
  | some d =>
    simp only [dstFree, Bool.and_eq_true, List.all_eq_true, Bool.not_eq_true'] at hd
    have h3 := hd.2 g hg
    have hne : d ≠ g.c := by
      intro he; rw [he] at h3; simp at h3
    simp only [Act.put, Array.getElem?_setIfInBounds, if_neg hne, h2]
theorem dstFree_lt {n : Nat} {gs : List Gd} {d : Option Nat} (h : dstFree n gs d = true) : ∀ k, d = some k → k < n := by
  intro k hk; subst hk
  simp only [dstFree, Bool.and_eq_true] at h
  have := Nat.le_of_ble_eq_true h.1
  omega
theorem dstIs_eq {a b : Option Nat} (h : dstIs a b = true) : a = b := by
  unfold dstIs at h
  split at h
  · rfl
  · rw [Nat.eq_of_beq_eq_true h]
  · cases h
theorem wpOps_cons {P : Program} {ops : Array Oper} {Q : Exit → Act → World → Prop} {i : Nat} {rest : List Nat} {a : Act} {w : World} {o : Oper} (ho : ops[i]? = some o)
    (hw : Region.wanted o (yielded ops a.tmps) = true) (h : o.wp P a w (wpOps P ops Q rest) Q) : wpOps P ops Q (i :: rest) a w := by
  rw [wpOps]; simp only [ho, hw, if_true]; exact .inl h
theorem wpOps_skip {P : Program} {ops : Array Oper} {Q : Exit → Act → World → Prop} {i : Nat} {rest : List Nat} {a : Act} {w : World} {o : Oper} (ho : ops[i]? = some o)
    (hw : Region.wanted o (yielded ops a.tmps) = false) (h : wpOps P ops Q rest (a.put o.dst undef) w) : wpOps P ops Q (i :: rest) a w := by
  rw [wpOps]; simp only [ho, hw]; exact h
/-- A way to run operations: in the text's order (q = false), or in whatever order, each of them quiet (q = true). -/
structure Rn (C : Cx) (q : Bool) (ops : Array Oper) (W : List Nat → Act → World → Prop) : Prop where
  val : ∀ (i : Nat) (rest : List Nat) (a : Act) (w : World) (o : Oper) (v : Value), ops[i]? = some o → Region.wanted o (yielded ops a.tmps) = true →
    (∀ w', Ext w w' → (execOp a.eval o).run C.P w' = .ok (.value v) w') → W rest (a.put o.dst v) w → W (i :: rest) a w
  skip : ∀ (i : Nat) (rest : List Nat) (a : Act) (w : World) (o : Oper), ops[i]? = some o → Region.wanted o (yielded ops a.tmps) = false → W rest (a.put o.dst undef) w → W (i :: rest) a w
  eff : q = false → ∃ Q, W = wpOps C.P ops Q
  callq : q = true → ∀ (i : Nat) (rest : List Nat) (a : Act) (w : World) (o : Oper) (f : Nat) (args : Array Value) (v : Value), ops[i]? = some o → Region.wanted o (yielded ops a.tmps) = true →
    (∀ w', Ext w w' → (execOp a.eval o).run C.P w' = .ok (.enter f args) w' ∧ Calls C.P f args w' (fun e w'' => e = .returned v ∧ Ext w w'')) → W rest (a.put o.dst v) w → W (i :: rest) a w
theorem Rn.text (C : Cx) (ops : Array Oper) (Q : Exit → Act → World → Prop) : Rn C false ops (wpOps C.P ops Q) where
  val := fun i rest a w o v ho hw hr h => by
    refine wpOps_cons ho hw ?_
    unfold Oper.wp
    rw [hr w (Ext.refl w), Oper.upon_value]; exact h
  skip := fun i rest a w o ho hw h => wpOps_skip ho hw h
  eff := fun _ => ⟨Q, rfl⟩
  callq := fun h => by cases h
/-- Running the items from the state 'st' comes to K. -/
def AXI (C : Cx) (q : Bool) (gs : List Gd) (items : List XI) (st : St) (K : St → Prop) : Prop :=
  ∀ (ops : Array Oper) (W : List Nat → Act → World → Prop), Rn C q ops W → ∀ (lo i k : Nat), fitIs C.P C.n ops gs lo items i = some k → ∀ (rest : List Nat) (a : Act) (w : World),
    Sat C st a w → GdS ops gs a → (∀ st' a' w', (q = true → w' = w) → K st' → Sat C st' a' w' → GdS ops gs a' → W rest a' w') → W (List.range' i (k - i) ++ rest) a w
section
variable {C : Cx} {q : Bool} {gs : List Gd} {st : St} {K : St → Prop}
theorem ax_nil (h : K st) : AXI C q gs [] st K := by
  intro ops W R lo i k hf rest a w S G H
  rw [fitIs] at hf; cases hf
  simp only [Nat.sub_self, List.range'_zero, List.nil_append]
  exact H st a w (fun _ => rfl) h S G
theorem AXI.mono {items : List XI} {K' : St → Prop} (h : AXI C q gs items st K) (hk : ∀ st, K st → K' st) : AXI C q gs items st K' :=
  fun ops W R lo i k hf rest a w S G H => h ops W R lo i k hf rest a w S G (fun st' a' w' h0 h1 => H st' a' w' h0 (hk _ h1))
theorem fitIs_cons {P : Program} {n : Nat} {ops : Array Oper} {gs : List Gd} {lo i k : Nat} {x : XI} {xs : List XI} (h : fitIs P n ops gs lo (x :: xs) i = some k) :
    ∃ m, fitI P n ops gs lo x i = some m ∧ fitIs P n ops gs lo xs m = some k ∧ i < m ∧ m ≤ k := by
  rw [fitIs] at h
  split at h
  · rename_i m hm
    exact ⟨m, hm, h, fitI_le P n ops x gs lo i m hm, fitIs_le P n ops xs gs lo m k h⟩
  · cases h
theorem range_split {i m k : Nat} (h1 : i ≤ m) (h2 : m ≤ k) : List.range' i (k - i) = List.range' i (m - i) ++ List.range' m (k - m) := by
  have h := List.range'_append (s := i) (m := m - i) (n := k - m) (step := 1)
  rw [show i + 1 * (m - i) = m from by omega, show m - i + (k - m) = k - i from by omega] at h
  exact h.symm
/-- Two runs of items, one behind the other. -/
theorem range_one {i : Nat} : List.range' i (i + 1 - i) = [i] := by
  rw [show i + 1 - i = 1 from by omega]; rfl
theorem op_fit {P : Program} {n : Nat} {ops : Array Oper} {lo i m : Nat} {d : Option Nat} {x : XOp} (h : fitI P n ops gs lo (.op d x) i = some m) :
    ∃ o, ops[i]? = some o ∧ guardIs o gs = true ∧ o.dst = d ∧ dstFree n gs d = true ∧ fits P o x = true ∧ m = i + 1 := by
  rw [fitI] at h
  split at h
  · rename_i o ho
    obtain ⟨h1, h2⟩ := bif_some h
    simp only [Bool.and_eq_true] at h1
    exact ⟨o, ho, h1.1.1.1, dstIs_eq h1.1.1.2, h1.1.2, h1.2, h2.symm⟩
  · cases h
theorem ax_q {sl : List (Nat × AV)} {own : List (Nat × OB)} {d : Nat} {x : XOp} {its : List XI} {r : AV} (hq : QStep C ⟨sl, own⟩ x r) (h : AXI C q gs its ⟨(d, r) :: sl, own⟩ K) :
    AXI C q gs (.op (some d) x :: its) ⟨sl, own⟩ K := by
  intro ops W R lo i k hf rest a w S G H
  obtain ⟨m, h1, h2, h3, h4⟩ := fitIs_cons hf
  obtain ⟨o, ho, hg, hd, hfr, hx, rfl⟩ := op_fit h1
  rw [range_split (by omega) h4, range_one, List.append_assoc, List.singleton_append]
  obtain ⟨β, S⟩ := S
  obtain ⟨v, hv, hr⟩ := hq o hx a w β S
  refine R.val i _ a w o v ho (wanted_of hg G) hr ?_
  rw [hd]
  exact h ops W R lo (i + 1) k h2 rest _ w ⟨β, S.put (dstFree_lt hfr d rfl) hv⟩ (G.put hfr) H
theorem ax_e {st' : St} {d : Option Nat} {x : XOp} {its : List XI} (he : EStep C st d x st') (h : AXI C false gs its st' K) : AXI C false gs (.op d x :: its) st K := by
  intro ops W R lo i k hf rest a w S G H
  obtain ⟨Q, hW⟩ := R.eff rfl
  subst hW
  obtain ⟨m, h1, h2, h3, h4⟩ := fitIs_cons hf
  obtain ⟨o, ho, hg, hd, hfr, hx, rfl⟩ := op_fit h1
  rw [range_split (by omega) h4, range_one, List.append_assoc, List.singleton_append]
  refine wpOps_cons ho (wanted_of hg G) ?_
  obtain ⟨β, S⟩ := S
  obtain ⟨r, w', β', hr, hc⟩ := he o hd (dstFree_lt hfr) hx a w β S
  unfold Oper.wp
  rw [hr]
  rcases hc with ⟨rfl, S'⟩ | ⟨v, rfl, S'⟩
  · rw [Oper.upon_skip, hd]
    exact h ops _ R lo (i + 1) k h2 rest _ w' ⟨β', S'⟩ (G.put hfr) (fun st' a' w' _ => H st' a' w' (fun h => by cases h))
  · rw [Oper.upon_value, hd]
    exact h ops _ R lo (i + 1) k h2 rest _ w' ⟨β', S'⟩ (G.put hfr) (fun st' a' w' _ => H st' a' w' (fun h => by cases h))
/-- A call of 'f' from the state 'st' comes to K. -/
def VCall (C : Cx) (st : St) (f : Nat) (vs : List AV) (K : AV → St → Prop) : Prop :=
  ∀ a w β us, SatB C st a w β → AL C.X β w vs us → Calls C.P f us.toArray w (fun e w' => ∃ v r st' β', e = .returned v ∧ K r st' ∧ SatB C st' a w' β' ∧ AR C.X β' w' r v)
theorem VCall.mono {f : Nat} {vs : List AV} {K K' : AV → St → Prop} (h : VCall C st f vs K) (hk : ∀ r st', K r st' → K' r st') : VCall C st f vs K' :=
  fun a w β us S A => (h a w β us S A).mono fun _ _ ⟨v, r, st', β', h1, h2, h3⟩ => ⟨v, r, st', β', h1, hk _ _ h2, h3⟩
theorem callFunc_run {P : Program} {f : Nat} (hb : hasBody P f = true) (args : Array Value) (w : World) : (callFunc f args).run P w = .ok (.enter f args) w := by
  unfold hasBody at hb
  split at hb
  · rename_i fn hf
    simp only [Bool.and_eq_true, Bool.not_eq_true', beq_eq_false_iff_ne] at hb
    simp [callFunc, hf, hb.2]
    intro h1
    rw [h1] at hb; simp at hb
  · cases hb
theorem call_fit {P : Program} {n : Nat} {ops : Array Oper} {lo i m f : Nat} {d : Option Nat} {args : List XA} (h : fitI P n ops gs lo (.call d f args) i = some m) :
    ∃ o as ts, ops[i]? = some o ∧ o.op = .call { callee := .value (.func f), args := as, argTypes := ts } ∧ guardIs o gs = true ∧ o.dst = d ∧ dstFree n gs d = true ∧ hasBody P f = true ∧ fitsA as.toList args = true ∧ m = i + 1 := by
  rw [fitI] at h
  split at h
  · rename_i o ho
    split at h
    · rename_i g as ts hop
      obtain ⟨h1, h2⟩ := bif_some h
      simp only [Bool.and_eq_true] at h1
      have := Nat.eq_of_beq_eq_true h1.1.1.2
      subst this
      exact ⟨o, as, ts, ho, hop, h1.1.1.1.1.1, dstIs_eq h1.1.1.1.1.2, h1.1.1.1.2, h1.1.2, h1.2, h2.symm⟩
    · cases h
  · cases h
def putR (d : Option Nat) (r : AV) (st : St) : St :=
  match d with
  | some d => ⟨(d, r) :: st.sl, st.own⟩
  | none => st
theorem SatB.putR {C : Cx} {st : St} {a : Act} {w : World} {β : Names} {d : Option Nat} {r : AV} {v : Value} (S : SatB C st a w β) (hd : ∀ k, d = some k → k < C.n) (h : AR C.X β w r v) :
    SatB C (AM.putR d r st) (a.put d v) w β := by
  cases d with
  | none => exact S
  | some d => exact S.put (hd d rfl) h
theorem ax_call {d : Option Nat} {f : Nat} {args : List XA} {its : List XI} {vs : List AV} (ha : evL st.sl args = some vs) (h : VCall C st f vs (fun r st' => AXI C false gs its (putR d r st') K)) :
    AXI C false gs (.call d f args :: its) st K := by
  intro ops W R lo i k hf rest a w S G H
  obtain ⟨Q, hW⟩ := R.eff rfl
  subst hW
  obtain ⟨m, h1, h2, h3, h4⟩ := fitIs_cons hf
  obtain ⟨o, as, ts, ho, hop, hg, hd, hfr, hb, hx, rfl⟩ := call_fit h1
  rw [range_split (by omega) h4, range_one, List.append_assoc, List.singleton_append]
  refine wpOps_cons ho (wanted_of hg G) ?_
  obtain ⟨β, S⟩ := S
  have hA := AL_of_fits S hx ha
  have hrun : (execOp a.eval o).run C.P w = .ok (.enter f (as.map a.eval)) w := by
    simp [execOp, hop, resolve, Act.eval, Deferred.ofValue, invoke, callFunc_run hb]
  unfold Oper.wp
  rw [hrun, Oper.upon_enter]
  have e1 : as.map a.eval = (as.toList.map a.eval).toArray := by rw [← Array.toList_map]
  rw [e1]
  refine (h a w β _ S hA).mono ?_
  rintro e w' ⟨v, r, st', β', rfl, hK, S', hv⟩
  rw [hd]
  exact hK ops _ R lo (i + 1) k h2 rest _ w' ⟨β', S'.putR (dstFree_lt hfr) hv⟩ (G.put hfr) (fun st' a' w' _ => H st' a' w' (fun h => by cases h))
theorem callv_fit {P : Program} {n : Nat} {ops : Array Oper} {lo i m : Nat} {d : Option Nat} {x : XA} {args : List XA} (h : fitI P n ops gs lo (.callv d x args) i = some m) :
    ∃ o y as ts, ops[i]? = some o ∧ o.op = .call { callee := .value y, args := as, argTypes := ts } ∧ guardIs o gs = true ∧ o.dst = d ∧ dstFree n gs d = true ∧ fitA y x = true ∧ fitsA as.toList args = true ∧ m = i + 1 := by
  rw [fitI] at h
  split at h
  · rename_i o ho
    split at h
    · rename_i y as ts hop
      obtain ⟨h1, h2⟩ := bif_some h
      simp only [Bool.and_eq_true] at h1
      exact ⟨o, y, as, ts, ho, hop, h1.1.1.1.1, dstIs_eq h1.1.1.1.2, h1.1.1.2, h1.1.2, h1.2, h2.symm⟩
    · cases h
  · cases h
theorem ax_callv_gen {d : Option Nat} {x : XA} {f : Nat} {args : List XA} {its : List XI} {vs caps : List AV} {v : AV} (hv : ∀ {β : Names} {w : World} {u : Value}, AR C.X β w v u → ∃ us : Array Value, u = .func (.func f) #[] us ∧ AL C.X β w caps us.toList)
    (hx : evA st.sl x = some v) (hb : hasBody C.P f = true) (ha : evL st.sl args = some vs)
    (h : VCall C st f (vs ++ caps) (fun r st' => AXI C false gs its (putR d r st') K)) :
    AXI C false gs (.callv d x args :: its) st K := by
  intro ops W R lo i k hf rest a w S G H
  obtain ⟨Q, hW⟩ := R.eff rfl
  subst hW
  obtain ⟨m, h1, h2, h3, h4⟩ := fitIs_cons hf
  obtain ⟨o, y, as, ts, ho, hop, hg, hd, hfr, hy, hfx, rfl⟩ := callv_fit h1
  rw [range_split (by omega) h4, range_one, List.append_assoc, List.singleton_append]
  refine wpOps_cons ho (wanted_of hg G) ?_
  obtain ⟨β, S⟩ := S
  have hA := AL_of_fits S hfx ha
  have hF := AR_of_fitA S hy hx
  obtain ⟨cv, hF, hC⟩ := hv hF
  have hrun : (execOp a.eval o).run C.P w = .ok (.enter f (as.map a.eval ++ cv)) w := by
    simp [execOp, hop, resolve, hF, Deferred.ofValue, invoke, callFunc_run hb]
  unfold Oper.wp
  rw [hrun, Oper.upon_enter]
  have hA2 : ∀ {xs ys : List AV} {us vs : List Value}, AL C.X β w xs us → AL C.X β w ys vs → AL C.X β w (xs ++ ys) (us ++ vs) := by
    intro xs
    induction xs with
    | nil => intro ys us vs h1 h2; rw [AL] at h1; subst h1; exact h2
    | cons x xs ih =>
      intro ys us vs h1 h2
      rw [AL] at h1
      obtain ⟨v, r, rfl, h3, h4⟩ := h1
      rw [List.cons_append, List.cons_append, AL]
      exact ⟨v, _, rfl, h3, ih h4 h2⟩
  have e1 : as.map a.eval ++ cv = (as.toList.map a.eval ++ cv.toList).toArray := by simp
  rw [e1]
  refine (h a w β _ S (hA2 hA hC)).mono ?_
  rintro e w' ⟨v, r, st', β', rfl, hK, S', hv⟩
  rw [hd]
  exact hK ops _ R lo (i + 1) k h2 rest _ w' ⟨β', S'.putR (dstFree_lt hfr) hv⟩ (G.put hfr) (fun st' a' w' _ => H st' a' w' (fun h => by cases h))
end
end Go.AM

namespace Go.AM
mutual
def dstsI : XI → List Nat
  | .op d _ => d.toList
  | .call d _ _ => d.toList
  | .callv d _ _ => d.toList
  | .andor d _ _ _ grp _ => d :: dstsL grp
def dstsL : List XI → List Nat
  | [] => []
  | x :: xs => dstsI x ++ dstsL xs
end
/-- Nothing but 'undef' has been written, and that only into slots of 'ds'. -/
structure Sk (ds : List Nat) (a a' : Act) : Prop where
  size : a'.tmps.size = a.tmps.size
  df : a'.defers = a.defers
  slot : ∀ t : Nat, a'.tmps[t]? = a.tmps[t]? ∨ (t ∈ ds ∧ a'.tmps[t]? = some undef)
theorem Sk.refl (ds : List Nat) (a : Act) : Sk ds a a := ⟨rfl, rfl, fun _ => .inl rfl⟩
theorem Sk.trans {ds es : List Nat} {a b c : Act} (h : Sk ds a b) (k : Sk es b c) : Sk (ds ++ es) a c where
  size := k.size.trans h.size
  df := k.df.trans h.df
  slot := fun t => by
    rcases k.slot t with h1 | ⟨h1, h2⟩
    · rcases h.slot t with h3 | ⟨h3, h4⟩
      · exact .inl (h1.trans h3)
      · exact .inr ⟨List.mem_append_left _ h3, h1.trans h4⟩
    · exact .inr ⟨List.mem_append_right _ h1, h2⟩
theorem Sk.mono {ds es : List Nat} {a b : Act} (h : Sk ds a b) (hs : ∀ t, t ∈ ds → t ∈ es) : Sk es a b :=
  ⟨h.size, h.df, fun t => (h.slot t).imp id fun ⟨h1, h2⟩ => ⟨hs t h1, h2⟩⟩
theorem Sk.put {a : Act} {d : Option Nat} (hd : ∀ k, d = some k → k < a.tmps.size) : Sk d.toList a (a.put d undef) := by
  cases d with
  | none => exact Sk.refl _ _
  | some k =>
    refine ⟨by simp [Act.put], rfl, fun t => ?_⟩
    simp only [Act.put, Array.getElem?_setIfInBounds]
    by_cases h : k = t
    · subst h; right; simp [hd k rfl]
    · left; simp [h]
/-- The group's guard does not hold. -/
def Gf (ops : Array Oper) (g : Gd) (a : Act) : Prop := (ops[g.j]?).bind (·.dst) = some g.c ∧ a.tmps[g.c]? ≠ some (.bool g.b)
theorem Gf.sk {ops : Array Oper} {g : Gd} {ds : List Nat} {a a' : Act} (h : Gf ops g a) (s : Sk ds a a') : Gf ops g a' := by
  refine ⟨h.1, fun h2 => ?_⟩
  rcases s.slot g.c with h3 | ⟨_, h3⟩
  · exact h.2 (h3.symm.trans h2)
  · rw [h3] at h2; simp [undef] at h2
theorem unwanted_of {ops : Array Oper} {g : Gd} {gs : List Gd} {a : Act} {o : Oper} (hg : guardIs o (g :: gs) = true) (h : Gf ops g a) : Region.wanted o (yielded ops a.tmps) = false := by
  unfold Region.wanted
  simp only [guardIs] at hg
  split at hg
  · rename_i j b hj
    simp only [Bool.and_eq_true, beq_iff_eq] at hg
    obtain ⟨h1, h2⟩ := hg
    have h1 := Nat.eq_of_beq_eq_true h1
    subst h1 h2
    rw [hj]
    obtain ⟨h3, h4⟩ := h
    simp only [yielded, h3, Option.bind_some]
    split
    · rename_i v hv
      rw [beq_eq_false_iff_ne]
      intro he
      simp only [Option.some.injEq] at he
      subst he
      exact h4 hv
    · rfl
  · cases hg
/-- The slots of the operations from lo to i hold 'undef'. -/
def Und (ops : Array Oper) (n lo i : Nat) (a : Act) : Prop := ∀ q, lo ≤ q → q < i → ∀ c, (ops[q]?).bind (·.dst) = some c → c < n → a.tmps[c]? = some undef
theorem Und.sk {ops : Array Oper} {n lo i : Nat} {ds : List Nat} {a a' : Act} (h : Und ops n lo i a) (s : Sk ds a a') : Und ops n lo i a' := by
  intro q h1 h2 c h3 h4
  rcases s.slot c with h5 | ⟨_, h5⟩
  · exact h5.trans (h q h1 h2 c h3 h4)
  · exact h5
theorem Und.step {ops : Array Oper} {n lo i : Nat} {a : Act} {o : Oper} {d : Option Nat} (h : Und ops n lo i a) (ho : ops[i]? = some o) (hd : o.dst = d) (hs : a.tmps.size = n) (hlt : ∀ k, d = some k → k < n) :
    Und ops n lo (i + 1) (a.put d undef) := by
  intro q h1 h2 c h3 h4
  by_cases hq : q = i
  · subst hq
    rw [ho, Option.bind_some, hd] at h3
    subst h3
    simp [Act.put, hs, h4]
  · exact h.sk (Sk.put (fun k hk => by rw [hs]; exact hlt k hk)) q h1 (by omega) c h3 h4
theorem andor_fit {P : Program} {n : Nat} {ops : Array Oper} {gs : List Gd} {lo i m d j c : Nat} {b : Bool} {grp : List XI} {s : XA} (h : fitI P n ops gs lo (.andor d b j c grp s) i = some m) :
    lo ≤ j ∧ j < i ∧ c < n ∧ (ops[j]?).bind (·.dst) = some c ∧ ∃ k o p x y, fitIs P n ops (⟨j, b, c⟩ :: gs) i grp i = some k ∧ i ≤ k ∧ ops[k]? = some o ∧ o.op = .pick p x y ∧ guardIs o gs = true ∧ o.dst = some d ∧
      dstFree n gs (some d) = true ∧ fitA p (.t c) = true ∧ (bif b then fitA x s && fitA y (.k (.bool false)) else fitA x (.k (.bool true)) && fitA y s) = true ∧ m = k + 1 := by
  rw [fitI] at h
  obtain ⟨h1, h2⟩ := bif_match h
  simp only [Bool.and_eq_true] at h1
  obtain ⟨⟨⟨h3, h4⟩, h5⟩, h6⟩ := h1
  refine ⟨Nat.le_of_ble_eq_true h3, by have := Nat.le_of_ble_eq_true h4; omega, by have := Nat.le_of_ble_eq_true h5; omega, dstIs_eq h6, ?_⟩
  split at h2
  · rename_i k hk
    split at h2
    · rename_i o ho
      split at h2
      · rename_i p x y hop
        obtain ⟨h7, h8⟩ := bif_some h2
        simp only [Bool.and_eq_true] at h7
        exact ⟨k, o, p, x, y, hk, fitIs_le P n ops grp _ _ i k hk, ho, hop, h7.1.1.1.1, dstIs_eq h7.1.1.1.2, h7.1.1.2, h7.1.2, h7.2, h8.symm⟩
      · cases h2
    · cases h2
  · cases h2
def SkipW (ops : Array Oper) (W : List Nat → Act → World → Prop) : Prop :=
  ∀ (i : Nat) (rest : List Nat) (a : Act) (w : World) (o : Oper), ops[i]? = some o → Region.wanted o (yielded ops a.tmps) = false → W rest (a.put o.dst undef) w → W (i :: rest) a w
mutual
theorem skipI {P : Program} {n : Nat} {ops : Array Oper} : ∀ (x : XI) (g : Gd) (gs : List Gd) (lo i m : Nat), fitI P n ops (g :: gs) lo x i = some m → ∀ (W : List Nat → Act → World → Prop), SkipW ops W → ∀ (rest : List Nat) (a : Act) (w : World),
    a.tmps.size = n → Gf ops g a → Und ops n lo i a → (∀ a', Sk (dstsI x) a a' → Und ops n lo m a' → W rest a' w) → W (List.range' i (m - i) ++ rest) a w
  | .op d x, g, gs, lo, i, m, hf, W, R, rest, a, w, hs, G, U, H => by
    obtain ⟨o, ho, hg, hd, hfr, hx, rfl⟩ := op_fit hf
    rw [range_one, List.singleton_append]
    refine R i _ a w o ho (unwanted_of hg G) ?_
    rw [hd]
    exact H _ (Sk.put (fun k hk => by rw [hs]; exact dstFree_lt hfr k hk)) (U.step ho hd hs (dstFree_lt hfr))
  | .call d f args, g, gs, lo, i, m, hf, W, R, rest, a, w, hs, G, U, H => by
    obtain ⟨o, as, ts, ho, hop, hg, hd, hfr, hb, hx, rfl⟩ := call_fit hf
    rw [range_one, List.singleton_append]
    refine R i _ a w o ho (unwanted_of hg G) ?_
    rw [hd]
    exact H _ (Sk.put (fun k hk => by rw [hs]; exact dstFree_lt hfr k hk)) (U.step ho hd hs (dstFree_lt hfr))
  | .callv d x args, g, gs, lo, i, m, hf, W, R, rest, a, w, hs, G, U, H => by
    obtain ⟨o, y, as, ts, ho, hop, hg, hd, hfr, hy, hfx, rfl⟩ := callv_fit hf
    rw [range_one, List.singleton_append]
    refine R i _ a w o ho (unwanted_of hg G) ?_
    rw [hd]
    exact H _ (Sk.put (fun k hk => by rw [hs]; exact dstFree_lt hfr k hk)) (U.step ho hd hs (dstFree_lt hfr))
  | .andor d b j c grp s, g, gs, lo, i, m, hf, W, R, rest, a, w, hs, G, U, H => by
    obtain ⟨h1, h2, h3, h4, k, o, p, x, y, h5, h6, ho, hop, hg, hd, hfr, h7, h8, rfl⟩ := andor_fit hf
    rw [range_split (by omega : i ≤ k) (by omega), range_one, List.append_assoc]
    have hc := U j h1 h2 c h4 h3
    refine skipL grp ⟨j, b, c⟩ (g :: gs) i i k h5 W R _ a w hs ⟨h4, by rw [hc]; simp [undef]⟩ (fun q h1 h2 => by omega) (fun a' s' U' => ?_)
    rw [List.singleton_append]
    have hs' : a'.tmps.size = n := s'.size.trans hs
    refine R k _ a' w o ho (unwanted_of hg (G.sk s')) ?_
    rw [hd]
    have sp : Sk [d] a' (a'.put (some d) undef) := Sk.put (d := some d) (fun k hk => by rw [hs']; exact dstFree_lt hfr k hk)
    refine H _ ((s'.trans sp).mono (fun t ht => by rw [dstsI]; simp only [List.mem_append, List.mem_cons, List.not_mem_nil, or_false] at ht ⊢; exact ht.symm)) ?_
    have U2 : Und ops n lo k a' := by
      intro q hq1 hq2 c' hc1 hc2
      by_cases hqi : q < i
      · exact (U.sk s') q hq1 hqi c' hc1 hc2
      · exact U' q (by omega) hq2 c' hc1 hc2
    exact U2.step ho hd hs' (dstFree_lt hfr)
theorem skipL {P : Program} {n : Nat} {ops : Array Oper} : ∀ (xs : List XI) (g : Gd) (gs : List Gd) (lo i m : Nat), fitIs P n ops (g :: gs) lo xs i = some m → ∀ (W : List Nat → Act → World → Prop), SkipW ops W → ∀ (rest : List Nat) (a : Act) (w : World),
    a.tmps.size = n → Gf ops g a → Und ops n lo i a → (∀ a', Sk (dstsL xs) a a' → Und ops n lo m a' → W rest a' w) → W (List.range' i (m - i) ++ rest) a w
  | [], g, gs, lo, i, m, hf, W, R, rest, a, w, hs, G, U, H => by
    rw [fitIs] at hf; cases hf
    simp only [Nat.sub_self, List.range'_zero, List.nil_append]
    exact H a (Sk.refl _ _) U
  | x :: xs, g, gs, lo, i, m, hf, W, R, rest, a, w, hs, G, U, H => by
    obtain ⟨k, h1, h2, h3, h4⟩ := fitIs_cons hf
    rw [range_split (by omega : i ≤ k) h4, List.append_assoc]
    refine skipI x g gs lo i k h1 W R _ a w hs G U (fun a' s' U' => ?_)
    refine skipL xs g gs lo k m h2 W R _ a' w (s'.size.trans hs) (G.sk s') U' (fun a'' s'' U'' => ?_)
    exact H a'' (by rw [dstsL]; exact s'.trans s'') U''
end
theorem free_not {n : Nat} {gs : List Gd} {d : Option Nat} (h : dstFree n gs d = true) {g : Gd} (hg : g ∈ gs) : g.c ∉ d.toList := by
  cases d with
  | none => simp
  | some k =>
    simp only [dstFree, Bool.and_eq_true, List.all_eq_true, Bool.not_eq_true'] at h
    have h3 := h.2 g hg
    simp only [Option.toList_some, List.mem_singleton]
    intro he; rw [← he] at h3; simp at h3
mutual
theorem grp_freeI {P : Program} {n : Nat} {ops : Array Oper} : ∀ (x : XI) (gs : List Gd) (lo i m : Nat), fitI P n ops gs lo x i = some m → ∀ g ∈ gs, g.c ∉ dstsI x
  | .op d x, gs, lo, i, m, hf, g, hg => by
    obtain ⟨o, ho, hgd, hd, hfr, hx, rfl⟩ := op_fit hf
    rw [dstsI]; exact free_not hfr hg
  | .call d f args, gs, lo, i, m, hf, g, hg => by
    obtain ⟨o, as, ts, ho, hop, hgd, hd, hfr, hb, hx, rfl⟩ := call_fit hf
    rw [dstsI]; exact free_not hfr hg
  | .callv d x args, gs, lo, i, m, hf, g, hg => by
    obtain ⟨o, y, as, ts, ho, hop, hgd, hd, hfr, hy, hfx, rfl⟩ := callv_fit hf
    rw [dstsI]; exact free_not hfr hg
  | .andor d b j c grp s, gs, lo, i, m, hf, g, hg => by
    obtain ⟨h1, h2, h3, h4, k, o, p, x, y, h5, h6, ho, hop, hgd, hd, hfr, h7, h8, rfl⟩ := andor_fit hf
    rw [dstsI, List.mem_cons, not_or]
    refine ⟨fun he => free_not hfr hg (by rw [he]; simp), grp_free grp _ i i k h5 g (List.mem_cons_of_mem _ hg)⟩
theorem grp_free {P : Program} {n : Nat} {ops : Array Oper} : ∀ (xs : List XI) (gs : List Gd) (lo i m : Nat), fitIs P n ops gs lo xs i = some m → ∀ g ∈ gs, g.c ∉ dstsL xs
  | [], gs, lo, i, m, hf, g, hg => by rw [dstsL]; simp
  | x :: xs, gs, lo, i, m, hf, g, hg => by
    obtain ⟨k, h1, h2, h3, h4⟩ := fitIs_cons hf
    rw [dstsL, List.mem_append, not_or]
    exact ⟨grp_freeI x gs lo i k h1 g hg, grp_free xs gs lo k m h2 g hg⟩
end
def frS : List Nat → List (Nat × AV) → Bool
  | [], _ => true
  | d :: ds, sl => (match get sl d with | some _ => false | none => true) && frS ds sl
theorem frS_mem : ∀ {ds : List Nat} {sl : List (Nat × AV)}, frS ds sl = true → ∀ t ∈ ds, get sl t = none
  | d :: ds, sl, h, t, ht => by
    simp only [frS, Bool.and_eq_true] at h
    rcases List.mem_cons.1 ht with rfl | ht
    · have := h.1
      split at this
      · cases this
      · assumption
    · exact frS_mem h.2 t ht
/-- The state 'st' says no more than 'st''. -/
def leL {α : Type} : List (Nat × α) → List (Nat × α) → Prop
  | [], _ => True
  | (k, x) :: r, l => get l k = some x ∧ leL r l
theorem leL_get {α : Type} : ∀ {l l' : List (Nat × α)}, leL l l' → ∀ k x, get l k = some x → get l' k = some x
  | (k', y) :: r, l', h, k, x, hx => by
    rw [leL] at h
    rw [get_cons] at hx
    split at hx
    · rename_i e; subst e; cases hx; exact h.1
    · exact leL_get h.2 k x hx
def St.le (st st' : St) : Prop := leL st.sl st'.sl ∧ leL st.own st'.own
theorem SatB.le {C : Cx} {st st' : St} {a : Act} {w : World} {β : Names} (S : SatB C st' a w β)
    (h1 : ∀ k x, get st.sl k = some x → get st'.sl k = some x) (h2 : ∀ k x, get st.own k = some x → get st'.own k = some x) : SatB C st a w β where
  tsize := S.tsize
  df := S.df
  slots := fun t x hx => S.slots t x (h1 t x hx)
  hr := ⟨S.hr.inj, S.hr.lt, S.hr.notX, S.hr.hlt, S.hr.hinj, S.hr.hX, fun e ob ho => S.hr.own e ob (h2 e ob ho)⟩
  mine := S.mine
  stay := S.stay
  fr := S.fr
  xlt := S.xlt
theorem Sat.le {C : Cx} {st st' : St} {a : Act} {w : World} (h : St.le st st') (S : Sat C st' a w) : Sat C st a w :=
  let ⟨β, S⟩ := S
  ⟨β, S.le (leL_get h.1) (leL_get h.2)⟩
section
variable {C : Cx} {q : Bool} {gs : List Gd} {K : St → Prop}
theorem getD_eq {a : Act} {t : Nat} {v : Value} (h : a.tmps.getD t undef = v) (hv : v ≠ undef) : a.tmps[t]? = some v := by
  rw [Array.getD_eq_getD_getElem?] at h
  cases hc : a.tmps[t]? with
  | none => rw [hc] at h; simp at h; exact absurd h.symm hv
  | some u => rw [hc] at h; simp at h; rw [h]
theorem ax_andor {d j c : Nat} {b t y : Bool} {grp : List XI} {s : XA} {its : List XI} {sl : List (Nat × AV)} {own : List (Nat × OB)}
    (hc : get sl c = some (.d (.bool t))) (hfr : frS (dstsL grp) sl = true)
    (hgrp : t = b → AXI C q (⟨j, b, c⟩ :: gs) grp ⟨sl, own⟩ (fun st' => evA st'.sl s = some (.d (.bool y)) ∧ St.le ⟨sl, own⟩ st'))
    (h : AXI C q gs its ⟨(d, .d (.bool (bif b then t && y else t || y))) :: sl, own⟩ K) :
    AXI C q gs (.andor d b j c grp s :: its) ⟨sl, own⟩ K := by
  intro ops W R lo i k hf rest a w S G H
  obtain ⟨m, h1, h2, h3, h4⟩ := fitIs_cons hf
  obtain ⟨g1, g2, g3, g4, k', o, p, x, z, g5, g6, ho, hop, hg, hd, hdf, g7, g8, rfl⟩ := andor_fit h1
  rw [range_split (by omega) h4, range_split (by omega : i ≤ k') (by omega), range_one, List.append_assoc, List.append_assoc]
  have hct : a.tmps[c]? = some (.bool t) := by
    obtain ⟨β, S⟩ := S
    have := S.slots c _ hc
    rw [AR, DR] at this
    exact getD_eq this (by simp [undef])
  by_cases htb : t = b
  · subst htb
    have G' : GdS ops (⟨j, t, c⟩ :: gs) a := by
      intro g hgm
      rcases List.mem_cons.1 hgm with rfl | hgm
      · exact ⟨g4, hct⟩
      · exact G g hgm
    refine hgrp rfl ops W R i i k' g5 _ a w S G' (fun st' a' w' hw0 hK S' G2 => ?_)
    rw [List.singleton_append]
    obtain ⟨hy, hle⟩ := hK
    obtain ⟨β, S'⟩ := S'
    have hp : a'.eval p = .bool t := by
      have hct' := (G2 _ List.mem_cons_self).2
      simp only at hct'
      unfold fitA at g7
      split at g7
      · rename_i u v e; cases e
        have := Nat.eq_of_beq_eq_true g7
        subst this
        simp [Act.eval, Array.getD_eq_getD_getElem?, hct']
      · rename_i e; cases e
      · rename_i e; cases e
      · rename_i e; cases e
      · cases g7
    have key : AR C.X β w' (.d (.bool (bif t then t && y else t || y))) (if t then a'.eval x else a'.eval z) := by
      cases t
      · simp only [cond_false, Bool.and_eq_true] at g8
        have := AR_of_fitA S' g8.2 hy
        simpa using this
      · simp only [cond_true, Bool.and_eq_true] at g8
        have := AR_of_fitA S' g8.1 hy
        simpa using this
    have hrun : ∀ w'', Ext w' w'' → (execOp a'.eval o).run C.P w'' = .ok (.value (if t then a'.eval x else a'.eval z)) w'' := fun w'' _ => by
      simp only [execOp, hop, hp, asBool, Sem.run_bind, Sem.run_pure, Result.andThen_ok]
    refine R.val k' _ a' w' o _ ho (wanted_of hg (fun g hgm => G2 g (List.mem_cons_of_mem _ hgm))) hrun ?_
    rw [hd]
    have S2 : SatB C ⟨sl, own⟩ a' w' β := S'.le (leL_get hle.1) (leL_get hle.2)
    exact h ops W R lo (k' + 1) k h2 rest _ w' ⟨β, S2.put (dstFree_lt hdf d rfl) key⟩ (GdS.put (fun g hgm => G2 g (List.mem_cons_of_mem _ hgm)) hdf)
      (fun st' a' w'' hw1 => H st' a' w'' (fun hq => (hw1 hq).trans (hw0 hq)))
  · obtain ⟨β, S⟩ := S
    refine skipL grp ⟨j, b, c⟩ gs i i k' g5 W R.skip _ a w S.tsize ⟨g4, by rw [hct]; simp [htb]⟩ (fun q h1 h2 => by omega) (fun a' s' U' => ?_)
    rw [List.singleton_append]
    have hmem : ∀ t' x', get sl t' = some x' → t' ∉ dstsL grp := fun t' x' hx hm => by
      rw [frS_mem hfr t' hm] at hx; cases hx
    have same : ∀ t' x', get sl t' = some x' → a'.tmps[t']? = a.tmps[t']? := fun t' x' hx => by
      rcases s'.slot t' with h5 | ⟨h5, _⟩
      · exact h5
      · exact absurd h5 (hmem t' x' hx)
    have G2 : GdS ops gs a' := by
      intro g hgm
      obtain ⟨q1, q2⟩ := G g hgm
      refine ⟨q1, ?_⟩
      rcases s'.slot g.c with h5 | ⟨h5, h6⟩
      · rw [h5]; exact q2
      · -- the group writes no guard's slot
        exfalso
        exact grp_free grp (⟨j, b, c⟩ :: gs) i i k' g5 g (List.mem_cons_of_mem _ hgm) h5
    have hct' : a'.tmps[c]? = some (.bool t) := (same c _ hc).trans hct
    have hp : a'.eval p = .bool t := by
      unfold fitA at g7
      split at g7
      · rename_i u v e; cases e
        have := Nat.eq_of_beq_eq_true g7
        subst this
        simp [Act.eval, Array.getD_eq_getD_getElem?, hct']
      · rename_i e; cases e
      · rename_i e; cases e
      · rename_i e; cases e
      · cases g7
    have S2 : SatB C ⟨sl, own⟩ a' w β := {
      tsize := s'.size.trans S.tsize
      df := s'.df.trans S.df
      slots := fun t' x' hx => by
        rw [Array.getD_eq_getD_getElem?, same t' x' hx, ← Array.getD_eq_getD_getElem?]
        exact S.slots t' x' hx
      hr := S.hr
      mine := S.mine
      stay := S.stay
      fr := S.fr
      xlt := S.xlt }
    have key : (if t then a'.eval x else a'.eval z) = .bool t := by
      have htn : t = !b := by cases t <;> cases b <;> simp_all
      cases b
      · simp only [cond_false, Bool.and_eq_true] at g8
        have := AR_of_fitA S2 g8.1 (v := .d (.bool true)) rfl
        rw [AR, DR] at this
        simp [htn, this]
      · simp only [cond_true, Bool.and_eq_true] at g8
        have := AR_of_fitA S2 g8.2 (v := .d (.bool false)) rfl
        rw [AR, DR] at this
        simp [htn, this]
    have hrun : ∀ w'', Ext w w'' → (execOp a'.eval o).run C.P w'' = .ok (.value (.bool t)) w'' := fun w'' _ => by
      simp only [execOp, hop, hp, asBool, Sem.run_bind, Sem.run_pure, Result.andThen_ok, key]
    refine R.val k' _ a' w o _ ho (wanted_of hg G2) hrun ?_
    rw [hd]
    have hvr : AR C.X β w (.d (.bool (bif b then t && y else t || y))) (.bool t) := by
      rw [AR, DR]
      cases t <;> cases b <;> simp_all
    exact h ops W R lo (k' + 1) k h2 rest _ w ⟨β, S2.put (dstFree_lt hdf d rfl) hvr⟩ (G2.put hdf) H
end
end Go.AM

namespace Go.AM
inductive XCode where
  | skip
  | ret
  | exit (id : Nat)
  | ops (l : List XI)
  | draw (l : List XI)
  | drawE (deps : List (List Nat)) (hd tl : List XI)
  | drawP (deps : List (List Nat)) (hd tl : List XI)
  | drawS (deps : List (List Nat)) (hd tl : List XI)
  | drawC (deps : List (List Nat)) (pre hd tl : List XI) (j : Nat) (b : Bool) (c : Nat)
  | seq (a b : XCode)
  | cond (x : XA) (a b : XCode)
  | block (id : Nat) (a : XCode)
  | loop (a : XCode)
  | keep (ks : List Nat) (a : XCode)
  deriving Inhabited
/-- Where a result lies. -/
inductive XR where
  | t (n : Nat)
  | c1 (n : Nat)
  | cN (n sz : Nat)
  deriving Inhabited
structure XF where
  n : Nat
  code : XCode
  res : List XR
def sizeIs (o : Option Nat) (n : Nat) : Bool := match o with | some k => Nat.beq k n | none => false
def membN : Nat → List Nat → Bool
  | _, [] => false
  | x, y :: ys => bif Nat.beq x y then true else membN x ys
/-- 'deps': per operation, what must have come up before it (checked against its edges); from the n-th on, all that stands before it. -/
def depsOK (ops : Array Oper) (deps : List (List Nat)) (n : Nat) : Bool :=
  (List.range ops.size).all fun i => match ops[i]?, deps[i]? with
    | some o, some ds => o.after.all (fun e => !Region.binds .any e || Nat.ble (e.on + 1) i) &&
        ds.all (fun j => Nat.ble (j + 1) i && o.after.any fun e => Region.binds .any e && (Nat.beq e.on j || (match deps[e.on]? with | some l => membN j l | none => false))) &&
        (bif Nat.ble n i then (List.range i).all (fun j => membN j ds) else true)
    | _, _ => false
def fitsDE (P : Program) (n : Nat) (ops : Array Oper) (deps : List (List Nat)) (hd tl : List XI) : Bool :=
  match fitIs P n ops [] 0 hd 0 with
  | some m => Nat.beq m hd.length && sizeIs (fitIs P n ops [] 0 tl m) ops.size && P.follows .mixedOrders && depsOK ops deps m
  | none => false
/-- The first of them can be taken in the order in which they stand. -/
def lexPF (ops : Array Oper) : Nat → Nat → Array Bool → Bool
  | 0, _, _ => true
  | f + 1, k, listed => (Region.ready .any ops listed).contains k && Region.free .any ops listed k && lexPF ops f (k + 1) (listed.setIfInBounds k true)
def fitsDP (P : Program) (n : Nat) (ops : Array Oper) (deps : List (List Nat)) (hd tl : List XI) : Bool :=
  match fitIs P n ops [] 0 hd 0 with
  | some m => sizeIs (fitIs P n ops [] 0 tl m) ops.size && P.follows .mixedOrders && depsOK ops deps m && Region.noSelect ops && lexPF ops m 0 (Array.replicate ops.size false)
  | none => false
def tieOp (ops : Array Oper) (k : Nat) : Array Oper := ops.modify k (fun o => { o with after := o.after.push ⟨k - 1, .data⟩ })
def notTmp (d : Nat) : Operand → Bool
  | .tmp t => !Nat.beq t d
  | _ => true
def pickAt (ops : Array Oper) (k : Nat) : Option Nat := match ops[k]? with
  | some o => match o.op, o.guard, o.dst with
    | .pick _ _ _, none, some d => some d
    | _, _, _ => none
  | none => none
def storeFree (ops : Array Oper) (k d : Nat) : Bool := match ops[k]? with
  | some o => match o.op, o.guard, o.dst with
    | .store _ p q, none, none => notTmp d p && notTmp d q
    | _, _, _ => false
  | none => false
/-- As 'drawP', but the last of the quiet ones is a pick that may come up behind the store that opens the rest. -/
def fitsDS (P : Program) (n : Nat) (ops : Array Oper) (deps : List (List Nat)) (hd tl : List XI) : Bool :=
  match fitIs P n ops [] 0 hd 0 with
  | some (m + 1) => sizeIs (fitIs P n (tieOp ops (m + 1)) [] 0 hd 0) (m + 1) && sizeIs (fitIs P n (tieOp ops (m + 1)) [] 0 tl (m + 1)) (tieOp ops (m + 1)).size && P.follows .mixedOrders && depsOK ops deps (m + 2) && Region.noSelect (tieOp ops (m + 1)) &&
      lexPF (tieOp ops (m + 1)) (m + 1) 0 (Array.replicate (tieOp ops (m + 1)).size false) && depsOK (tieOp ops (m + 1)) (deps.set (m + 1) (List.range (m + 1))) (m + 1) &&
      (match pickAt ops m with | some d => storeFree ops (m + 1) d | none => false) &&
      (match deps[m + 1]? with | some l => (List.range m).all (fun j => membN j l) | none => false)
  | _ => false
def notAndor : XI → Bool
  | .andor .. => false
  | _ => true
/-- Single operations 'pre'; then single operations 'hd' that are wanted where the j-th, whose slot is c, yields b; then 'tl', one behind the other. -/
def fitsDC (P : Program) (n : Nat) (ops : Array Oper) (deps : List (List Nat)) (pre hd tl : List XI) (j : Nat) (b : Bool) (c : Nat) : Bool :=
  match fitIs P n ops [] 0 pre 0 with
  | some q => match fitIs P n ops [⟨j, b, c⟩] q hd q with
    | some m => Nat.beq q pre.length && Nat.beq m (q + hd.length) && Nat.ble (j + 1) q && Nat.ble (c + 1) n && dstIs ((ops[j]?).bind (·.dst)) (some c) && hd.all notAndor &&
        sizeIs (fitIs P n ops [] 0 tl m) ops.size && P.follows .mixedOrders && depsOK ops deps m && (List.range' q hd.length).all (fun i => match deps[i]? with | some l => membN j l | none => false)
    | none => false
  | none => false
def fitsC (P : Program) (n : Nat) : XCode → Code → Bool
  | .skip, c => match c with | .skip => true | _ => false
  | .ret, c => match c with | .ret => true | _ => false
  | .exit id, c => match c with | .exit id' => Nat.beq id id' | _ => false
  | .ops l, c => match c with | .region _ ops false => sizeIs (fitIs P n ops [] 0 l 0) ops.size | _ => false
  | .draw l, c => match c with | .region _ ops true => sizeIs (fitIs P n ops [] 0 l 0) ops.size && P.follows .mixedOrders && Region.lexB .any ops | _ => false
  | .drawE deps hd tl, c => match c with | .region _ ops true => fitsDE P n ops deps hd tl | _ => false
  | .drawP deps hd tl, c => match c with | .region _ ops true => fitsDP P n ops deps hd tl | _ => false
  | .drawS deps hd tl, c => match c with | .region _ ops true => fitsDS P n ops deps hd tl | _ => false
  | .drawC deps pre hd tl j b c', c => match c with | .region _ ops true => fitsDC P n ops deps pre hd tl j b c' | _ => false
  | .seq a b, c => match c with | .seq a' b' => fitsC P n a a' && fitsC P n b b' | _ => false
  | .cond x a b, c => match c with | .cond y a' b' => fitA y x && fitsC P n a a' && fitsC P n b b' | _ => false
  | .block id a, c => match c with | .block id' a' => Nat.beq id id' && fitsC P n a a' | _ => false
  | .loop a, c => match c with | .loop a' => fitsC P n a a' | _ => false
  | .keep _ a, c => fitsC P n a c
abbrev Kont := St → Prop
def lift (C : Cx) (Kn : Kont) (Ke : List (Nat × Kont)) (Kr : Kont) : Exit → Act → World → Prop
  | .normal, a, w => ∃ st, Kn st ∧ Sat C st a w
  | .exit id, a, w => ∃ K st, get Ke id = some K ∧ K st ∧ Sat C st a w
  | .ret, a, w => ∃ st, Kr st ∧ Sat C st a w
  | _, _, _ => False
/-- Running the code from 'st' comes to Kn, or leaves by an exit, or returns. -/
def AX (C : Cx) (x : XCode) (st : St) (Kn : Kont) (Ke : List (Nat × Kont)) (Kr : Kont) : Prop :=
  ∀ c, fitsC C.P C.n x c = true → ∀ a w, Sat C st a w → c.wp C.P (lift C Kn Ke Kr) a w
section
variable {C : Cx} {st : St} {Kn : Kont} {Ke : List (Nat × Kont)} {Kr : Kont}
theorem cx_skip (h : Kn st) : AX C .skip st Kn Ke Kr := by
  intro c hf a w S
  simp only [fitsC] at hf
  split at hf
  · exact wp_skip ⟨st, h, S⟩
  · cases hf
theorem cx_ret (h : Kr st) : AX C .ret st Kn Ke Kr := by
  intro c hf a w S
  simp only [fitsC] at hf
  split at hf
  · exact wp_ret ⟨st, h, S⟩
  · cases hf
theorem cx_exit {id : Nat} {K : Kont} (hk : get Ke id = some K) (h : K st) : AX C (.exit id) st Kn Ke Kr := by
  intro c hf a w S
  simp only [fitsC] at hf
  split at hf
  · have := Nat.eq_of_beq_eq_true hf
    subst this
    exact wp_exit ⟨K, st, hk, h, S⟩
  · cases hf
theorem sizeIs_eq {o : Option Nat} {n : Nat} (h : sizeIs o n = true) : o = some n := by
  unfold sizeIs at h
  split at h
  · rw [Nat.eq_of_beq_eq_true h]
  · cases h
theorem cx_ops {l : List XI} (h : AXI C false [] l st Kn) : AX C (.ops l) st Kn Ke Kr := by
  intro c hf a w S
  simp only [fitsC] at hf
  split at hf
  · rename_i id ops
    refine wp_region ?_
    have := h ops _ (Rn.text C ops (lift C Kn Ke Kr)) 0 0 ops.size (sizeIs_eq hf) [] a w S (fun g hg => by cases hg) (fun st' a' w' _ hK S' _ => ⟨st', hK, S'⟩)
    simpa [List.range_eq_range'] using this
  · cases hf
theorem cx_seq {x y : XCode} (h : AX C x st (fun st => AX C y st Kn Ke Kr) Ke Kr) : AX C (.seq x y) st Kn Ke Kr := by
  intro c hf a w S
  simp only [fitsC] at hf
  split at hf
  · rename_i a' b'
    simp only [Bool.and_eq_true] at hf
    refine wp_seq (wp_mono (h _ hf.1 a w S) ?_)
    intro e a w hl
    cases e with
    | normal => obtain ⟨st, hK, S⟩ := hl; exact hK _ hf.2 a w S
    | _ => exact hl
  · cases hf
theorem cx_cond {x : XA} {a b : XCode} {t : Bool} (hx : evA st.sl x = some (.d (.bool t))) (h1 : t = true → AX C a st Kn Ke Kr) (h2 : t = false → AX C b st Kn Ke Kr) : AX C (.cond x a b) st Kn Ke Kr := by
  intro c hf ac w S
  simp only [fitsC] at hf
  split at hf
  · rename_i y a' b'
    simp only [Bool.and_eq_true] at hf
    obtain ⟨β, S0⟩ := S
    have := AR_of_fitA S0 hf.1.1 hx
    rw [AR, DR] at this
    exact wp_cond_split this (fun ht => h1 ht _ hf.1.2 ac w ⟨β, S0⟩) (fun ht => h2 ht _ hf.2 ac w ⟨β, S0⟩)
  · cases hf
theorem cx_block {id : Nat} {a : XCode} (h : AX C a st Kn ((id, Kn) :: Ke) Kr) : AX C (.block id a) st Kn Ke Kr := by
  intro c hf ac w S
  simp only [fitsC] at hf
  split at hf
  · rename_i id' a'
    simp only [Bool.and_eq_true] at hf
    have := Nat.eq_of_beq_eq_true hf.1
    subst this
    refine wp_block (wp_mono (h _ hf.2 ac w S) ?_)
    intro e a w hl
    cases e with
    | exit i =>
      obtain ⟨K, st, h1, h2, h3⟩ := hl
      rw [get_cons] at h1
      simp only [Exit.inBlock]
      split at h1
      · rename_i e; rw [if_pos e.symm]; cases h1; exact ⟨st, h2, h3⟩
      · rename_i e; rw [if_neg (Ne.symm e)]; exact ⟨K, st, h1, h2, h3⟩
    | _ => exact hl
  · cases hf
theorem cx_loop {a : XCode} (I : Nat → St → Prop) (h0 : ∃ n st', I n st' ∧ St.le st' st)
    (h : ∀ n st, I n st → AX C a st (fun st' => ∃ m, m < n ∧ ∃ st'', I m st'' ∧ St.le st'' st') Ke Kr) : AX C (.loop a) st Kn Ke Kr := by
  intro c hf ac w S
  simp only [fitsC] at hf
  split at hf
  · rename_i a'
    classical
    let J (a : Act) (w : World) (n : Nat) : Prop := ∃ st, I n st ∧ Sat C st a w
    have least : ∀ (p : Nat → Prop), (∃ n, p n) → ∃ n, p n ∧ ∀ m, p m → n ≤ m := by
      intro p ⟨n, hn⟩
      induction n using Nat.strongRecOn with
      | _ n ih =>
        by_cases hm : ∃ m, m < n ∧ p m
        · obtain ⟨m, h1, h2⟩ := hm; exact ih m h1 h2
        · exact ⟨n, hn, fun m hpm => by
            rcases Nat.lt_or_ge m n with h | h
            · exact absurd ⟨m, h, hpm⟩ hm
            · exact h⟩
    let μ (a : Act) (w : World) : Nat := if hx : ∃ n, J a w n then Classical.choose (least _ hx) else 0
    have hμ : ∀ a w, (∃ n, J a w n) → J a w (μ a w) ∧ ∀ m, J a w m → μ a w ≤ m := by
      intro a w hx
      show J a w (if hx : ∃ n, J a w n then Classical.choose (least _ hx) else 0) ∧ ∀ m, J a w m → (if hx : ∃ n, J a w n then Classical.choose (least _ hx) else 0) ≤ m
      rw [dif_pos hx]
      exact Classical.choose_spec (least _ hx)
    refine wp_loop (fun a w => ∃ n, J a w n) μ ?_ ?_
    · obtain ⟨n, st', h1, h2⟩ := h0
      exact ⟨n, st', h1, S.le h2⟩
    · intro a w hJ
      obtain ⟨⟨st, h1, h2⟩, _⟩ := hμ a w hJ
      refine wp_mono (h _ st h1 _ hf a w h2) ?_
      intro e a2 w2 hl
      cases e with
      | normal =>
        obtain ⟨st', ⟨m, hm, st'', h3, h4⟩, S'⟩ := hl
        have hJ2 : J a2 w2 m := ⟨st'', h3, S'.le h4⟩
        exact ⟨⟨m, hJ2⟩, Nat.lt_of_le_of_lt ((hμ a2 w2 ⟨m, hJ2⟩).2 m hJ2) hm⟩
      | _ => exact hl
  · cases hf
/-- The named slots alone, in a normal form. -/
def keepK : List Nat → List (Nat × AV) → Option (List (Nat × AV))
  | [], _ => some []
  | t :: ts, sl => match keepK ts sl with
    | some l => match get sl t with
      | some x => some ((t, x) :: l)
      | none => some l
    | none => none
def memb : Nat → List Nat → Bool
  | _, [] => false
  | x, y :: ys => bif Nat.beq x y then true else memb x ys
/-- Shadowed entries struck. -/
def dedK : List Nat → List (Nat × OB) → Option (List (Nat × OB))
  | _, [] => some []
  | seen, (e, ob) :: r => bif memb e seen then dedK seen r else match dedK (e :: seen) r with
    | some l => some ((e, ob) :: l)
    | none => none
theorem keepK_get : ∀ {ts : List Nat} {sl l : List (Nat × AV)}, keepK ts sl = some l → ∀ t x, get l t = some x → get sl t = some x
  | [], sl, l, h, t, x, hx => by
    simp only [keepK, Option.some.injEq] at h
    subst h; simp [get] at hx
  | t :: ts, sl, l, h, t', y, hy => by
    rw [keepK] at h
    split at h
    · rename_i l' hl
      have ih := keepK_get hl
      split at h
      · rename_i x hx
        cases h
        rw [get_cons] at hy
        split at hy
        · rename_i e; subst e; cases hy; exact hx
        · exact ih t' y hy
      · cases h; exact ih t' y hy
    · cases h
theorem memb_iff : ∀ {x : Nat} {l : List Nat}, memb x l = true ↔ x ∈ l
  | x, [] => by simp [memb]
  | x, y :: ys => by
    rw [memb]
    by_cases h : x = y
    · subst h; simp
    · rw [beq_ne h, cond_false, memb_iff]; simp [h]
theorem dedK_get : ∀ {own : List (Nat × OB)} {seen : List Nat} {l : List (Nat × OB)}, dedK seen own = some l → ∀ e ob, get l e = some ob → get own e = some ob ∧ e ∉ seen
  | [], seen, l, h, t, x, hx => by
    simp only [dedK, Option.some.injEq] at h
    subst h; simp [get] at hx
  | (e, ob) :: r, seen, l, h, e', ob', he' => by
    rw [dedK] at h
    cases hm : memb e seen with
    | true =>
      rw [hm, cond_true] at h
      obtain ⟨h3, h4⟩ := dedK_get h e' ob' he'
      refine ⟨?_, h4⟩
      rw [get_cons_ne ob r (fun he => h4 (by rw [← he]; exact memb_iff.1 hm))]; exact h3
    | false =>
      rw [hm, cond_false] at h
      split at h
      · rename_i l' hl
        cases h
        rw [get_cons] at he'
        split at he'
        · rename_i he; subst he; cases he'
          exact ⟨get_cons_self _ _ _, fun h5 => by rw [memb_iff.2 h5] at hm; cases hm⟩
        · rename_i he
          obtain ⟨h3, h4⟩ := dedK_get hl e' ob' he'
          exact ⟨by rw [get_cons_ne ob r he]; exact h3, fun h5 => h4 (List.mem_cons_of_mem _ h5)⟩
      · cases h
theorem cx_keep {ks : List Nat} {a : XCode} {sl sl' : List (Nat × AV)} {own own' : List (Nat × OB)} (h1 : keepK ks sl = some sl') (h2 : dedK [] own = some own')
    (h : AX C a ⟨sl', own'⟩ Kn Ke Kr) : AX C (.keep ks a) ⟨sl, own⟩ Kn Ke Kr := by
  intro c hf ac w S
  simp only [fitsC] at hf
  refine h c hf ac w ?_
  obtain ⟨β, S⟩ := S
  exact ⟨β, S.le (keepK_get h1) (fun e ob he => (dedK_get h2 e ob he).1)⟩
theorem AX.mono {x : XCode} {Kn' : Kont} {Kr' : Kont} (h : AX C x st Kn Ke Kr) (h1 : ∀ st, Kn st → Kn' st) (h2 : ∀ st, Kr st → Kr' st) : AX C x st Kn' Ke Kr' := by
  intro c hf a w S
  refine wp_mono (h c hf a w S) ?_
  intro e a w hl
  cases e with
  | normal => obtain ⟨st, hK, S⟩ := hl; exact ⟨st, h1 _ hK, S⟩
  | ret => obtain ⟨st, hK, S⟩ := hl; exact ⟨st, h2 _ hK, S⟩
  | _ => exact hl
end
end Go.AM

namespace Go.AM
mutual
def refsIn (N : List Nat) : AV → Bool
  | .ptr e _ => memb e N
  | .rptr e _ _ _ => memb e N
  | .osl e _ _ _ => memb e N
  | .oslc e _ _ _ _ => memb e N
  | .agg cs => refsInL N cs
  | .tup cs => refsInL N cs
  | .fn _ cs => refsInL N cs
  | .bfn _ cs => refsInL N cs
  | _ => true
def refsInL (N : List Nat) : List AV → Bool
  | [] => true
  | x :: xs => refsIn N x && refsInL N xs
end
mutual
def renA (τ : Nat → Nat) : AV → AV
  | .ptr e o => .ptr (τ e) o
  | .rptr e sz i o => .rptr (τ e) sz i o
  | .osl e sz s len => .osl (τ e) sz s len
  | .oslc e sz s len cap => .oslc (τ e) sz s len cap
  | .agg cs => .agg (renL τ cs)
  | .tup cs => .tup (renL τ cs)
  | .fn f cs => .fn f (renL τ cs)
  | .bfn f cs => .bfn f (renL τ cs)
  | .d x => .d x
  | .zs sz => .zs sz
  | .raw v => .raw v
  | .dead => .dead
def renL (τ : Nat → Nat) : List AV → List AV
  | [] => []
  | x :: xs => renA τ x :: renL τ xs
end
def renO (τ : Nat → Nat) : OB → OB
  | .box cs => .box (renL τ cs)
  | .rows sz rs => .rows sz rs
  | .deep sz rs hs => .deep sz rs (hs.map (fun h => (h.1, h.2.1, τ h.2.2)))
  | .junk => .junk
def renOs (τ : Nat → Nat) : List (Nat × OB) → List (Nat × OB)
  | [] => []
  | (e, ob) :: r => (τ e, renO τ ob) :: renOs τ r
/-- No memory. -/
def scD : D → Bool
  | .sl _ rows => rows.isEmpty
  | .ip cs => cs.isEmpty
  | .fn _ cs => cs.isEmpty
  | _ => true
mutual
/-- No immutable memory. -/
def noIsl : AV → Bool
  | .d x => scD x
  | .agg cs => noIslL cs
  | .tup cs => noIslL cs
  | .fn _ cs => noIslL cs
  | .bfn _ cs => noIslL cs
  | _ => true
def noIslL : List AV → Bool
  | [] => true
  | x :: xs => noIsl x && noIslL xs
end
def noIslO : OB → Prop
  | .box cs => noIslL cs = true
  | .rows _ rs => ∀ r ∈ rs, ∀ x ∈ r, scD x = true
  | .deep _ _ _ => True
  | .junk => True
theorem scD_any {x : D} (h : scD x = true) {w w' : World} {ok ok' : Nat → Prop} {v : Value} (hr : DR w ok x v) : DR w' ok' x v := by
  cases x with
  | sl sz rows =>
    simp only [scD, List.isEmpty_iff] at h
    subst h
    rw [DR] at hr ⊢
    obtain ⟨a, cap, h1, h2, _⟩ := hr
    exact ⟨a, cap, h1, h2, .inl rfl⟩
  | ip cs =>
    simp only [scD, List.isEmpty_iff] at h
    subst h
    rw [DR] at hr ⊢
    obtain ⟨b, o, h1, _⟩ := hr
    exact ⟨b, o, h1, .inl rfl⟩
  | fn f cs =>
    simp only [scD, List.isEmpty_iff] at h
    subst h
    rw [DR] at hr ⊢
    obtain ⟨vs, h1, h2⟩ := hr
    rw [DL] at h2
    exact ⟨vs, h1, by rw [DL]; exact h2⟩
  | _ => rw [DR] at hr ⊢; exact hr
section ren
variable {X X' : Nat → Prop} {β β' : Names} {w : World} {N : List Nat} {τ : Nat → Nat} {sc : Bool}
mutual
/-- From the callee's names to the caller's. -/
theorem AR.ren (hn : ∀ e ∈ N, β' (τ e) = β e) (hok : (∀ b, b < w.heap.size → okf X β b → okf X' β' b) ∨ sc = true) : ∀ (x : AV) (v : Value), refsIn N x = true → (sc = true → noIsl x = true) → AR X β w x v → AR X' β' w (renA τ x) v
  | .ptr e o, v, hr, _, h => by
    rw [renA]; rw [AR] at h ⊢; rw [refsIn, memb_iff] at hr
    obtain ⟨b, h1, h2⟩ := h
    exact ⟨b, by rw [hn e hr]; exact h1, h2⟩
  | .rptr e sz i o, v, hr, _, h => by
    rw [renA]; rw [AR] at h ⊢; rw [refsIn, memb_iff] at hr
    obtain ⟨b, h1, h2⟩ := h
    exact ⟨b, by rw [hn e hr]; exact h1, h2⟩
  | .osl e sz s len, v, hr, _, h => by
    rw [renA]; rw [AR] at h ⊢; rw [refsIn, memb_iff] at hr
    obtain ⟨a, cap, h1, h2, h3⟩ := h
    exact ⟨a, cap, h1, h2, h3.imp id fun ⟨b, c, ty, fr, h4, h5⟩ => ⟨b, c, ty, fr, by rw [hn e hr]; exact h4, h5⟩⟩
  | .oslc e sz s len cap, v, hr, _, h => by
    rw [renA]; rw [AR] at h ⊢; rw [refsIn, memb_iff] at hr
    obtain ⟨a, h1, h2, h3⟩ := h
    exact ⟨a, h1, h2, h3.imp id fun ⟨b, c, ty, fr, h4, h5⟩ => ⟨b, c, ty, fr, by rw [hn e hr]; exact h4, h5⟩⟩
  | .agg cs, v, hr, hs, h => by
    rw [renA]; rw [AR] at h ⊢; rw [refsIn] at hr
    obtain ⟨vs, h1, h2⟩ := h
    exact ⟨vs, h1, AL.ren hn hok cs _ hr (fun e => by have := hs e; rwa [noIsl] at this) h2⟩
  | .tup cs, v, hr, hs, h => by
    rw [renA]; rw [AR] at h ⊢; rw [refsIn] at hr
    obtain ⟨vs, h1, h2⟩ := h
    exact ⟨vs, h1, AL.ren hn hok cs _ hr (fun e => by have := hs e; rwa [noIsl] at this) h2⟩
  | .fn f cs, v, hr, hs, h => by
    rw [renA]; rw [AR] at h ⊢; rw [refsIn] at hr
    obtain ⟨vs, h1, h2⟩ := h
    exact ⟨vs, h1, AL.ren hn hok cs _ hr (fun e => by have := hs e; rwa [noIsl] at this) h2⟩
  | .bfn f cs, v, hr, hs, h => by
    rw [renA]; rw [AR] at h ⊢; rw [refsIn] at hr
    obtain ⟨vs, h1, h2⟩ := h
    exact ⟨vs, h1, AL.ren hn hok cs _ hr (fun e => by have := hs e; rwa [noIsl] at this) h2⟩
  | .d x, v, _, hs, h => by
    rw [renA]; rw [AR] at h ⊢
    rcases hok with hok | hsc
    · exact DR.mono ⟨Nat.le_refl _, fun _ _ _ => rfl, fun b hb hl => hok b hl hb⟩ x v h
    · have := hs hsc; rw [noIsl] at this; exact scD_any this h
  | .zs sz, v, _, _, h => by rw [renA]; rw [AR] at h ⊢; exact h
  | .raw u, v, _, _, h => by rw [renA]; rw [AR] at h ⊢; exact h
  | .dead, v, _, _, h => by rw [renA, AR]; trivial
theorem AL.ren (hn : ∀ e ∈ N, β' (τ e) = β e) (hok : (∀ b, b < w.heap.size → okf X β b → okf X' β' b) ∨ sc = true) : ∀ (xs : List AV) (vs : List Value), refsInL N xs = true → (sc = true → noIslL xs = true) → AL X β w xs vs → AL X' β' w (renL τ xs) vs
  | [], vs, _, _, h => by rw [renL]; rw [AL] at h ⊢; exact h
  | x :: xs, vs, hr, hs, h => by
    rw [renL]; rw [AL] at h ⊢
    rw [refsInL, Bool.and_eq_true] at hr
    obtain ⟨v, r, h1, h2, h3⟩ := h
    exact ⟨v, r, h1, AR.ren hn hok x v hr.1 (fun e => by have := hs e; rw [noIslL, Bool.and_eq_true] at this; exact this.1) h2, AL.ren hn hok xs r hr.2 (fun e => by have := hs e; rw [noIslL, Bool.and_eq_true] at this; exact this.2) h3⟩
end
theorem CellD.ren {β β' : Names} {w : World} {e e' : Nat} (hh : ∀ j, β'.hd e' j = β.hd e j) {n n' : Option Nat} (hn : ∀ k, n = some k → ∃ k', n' = some k' ∧ β' k' = β k) (hn0 : n = none → n' = none)
    {x : D} {v : Value} (h : CellD β w e n x v) : CellD β' w e' n' x v := by
  cases n with
  | none =>
    rw [hn0 rfl]
    cases x with
    | sl m xs =>
      obtain ⟨a, cap, h1, h2, h3⟩ := h
      refine ⟨a, cap, h1, h2, h3.imp id ?_⟩
      rintro ⟨j, b, c, ty, fr, q1, q2⟩
      exact ⟨j, b, c, ty, fr, by rw [hh]; exact q1, q2⟩
    | int _ _ => exact h
    | bool _ => exact h
    | str _ => exact h
    | ip _ => exact h
    | fn _ _ => exact h
    | nilp => exact h
  | some k =>
    obtain ⟨k', e1, e2⟩ := hn k rfl
    subst e1
    cases x with
    | sl m xs =>
      obtain ⟨a, cap, h1, h2, h3⟩ := h
      refine ⟨a, cap, h1, h2, h3.imp id ?_⟩
      rintro ⟨b, c, ty, fr, q1, q2⟩
      exact ⟨b, c, ty, fr, by rw [e2]; exact q1, q2⟩
    | int _ _ => exact h
    | bool _ => exact h
    | str _ => exact h
    | ip _ => exact h
    | fn _ _ => exact h
    | nilp => exact h
theorem hole_map {τ : Nat → Nat} {i j : Nat} : ∀ {hs : List (Nat × Nat × Nat)}, hole (hs.map (fun h => (h.1, h.2.1, τ h.2.2))) i j = (hole hs i j).map τ
  | [] => rfl
  | (a, b, c) :: hs => by
    unfold hole
    rw [List.map_cons, List.find?_cons, List.find?_cons]
    by_cases h : a = i ∧ b = j
    · simp [h]
    · simp only [h, decide_false]
      exact hole_map
theorem OBR.ren (hn : ∀ e ∈ N, β' (τ e) = β e) (hok : (∀ b, b < w.heap.size → okf X β b → okf X' β' b) ∨ sc = true) {ob : OB} {b : Option Nat} {e e' : Nat} (hhd : ∀ j, β'.hd e' j = β.hd e j)
    (hr : match ob with | .box cs => refsInL N cs = true | .deep _ _ hs => ∀ h ∈ hs, h.2.2 ∈ N | _ => True)
    (hs : sc = true → noIslO ob) (h : OBR X β w ob b e) : OBR X' β' w (renO τ ob) b e' := by
  cases ob with
  | box cells =>
    cases b with
    | none => exact h.elim
    | some k =>
      obtain ⟨c, ty, fr, h1, h2, h3⟩ := h
      exact ⟨c, ty, fr, h1, h2, AL.ren hn hok _ _ hr (fun e => hs e) h3⟩
  | rows sz rs =>
    cases b with
    | none => exact h
    | some k =>
      obtain ⟨c, ty, fr, h1, h2, h3, h4⟩ := h
      refine ⟨c, ty, fr, h1, h2, h3, fun i r hi => ?_⟩
      obtain ⟨h5, h6⟩ := h4 i r hi
      refine ⟨h5, fun j x hj => ?_⟩
      obtain ⟨v, h7, h8⟩ := h6 j x hj
      refine ⟨v, h7, ?_⟩
      rcases hok with hok | hsc
      · exact DR.mono ⟨Nat.le_refl _, fun _ _ _ => rfl, fun b hb hl => hok b hl hb⟩ x v h8
      · exact scD_any (hs hsc r (List.mem_of_getElem? hi) x (List.mem_of_getElem? hj)) h8
  | junk =>
    cases b with
    | none => trivial
    | some k => exact h
  | deep sz rs h0 =>
    cases b with
    | none =>
      obtain ⟨h1, rfl⟩ := h
      exact ⟨h1, rfl⟩
    | some k =>
      obtain ⟨c, ty, fr, h1, h2, h3, h4, h5⟩ := h
      refine ⟨c, ty, fr, h1, h2, h3, fun i r hi => ?_, h5⟩
      obtain ⟨q1, q2⟩ := h4 i r hi
      refine ⟨q1, fun j x hj => ?_⟩
      obtain ⟨v, q3, q4⟩ := q2 j x hj
      rw [hole_map]
      exact ⟨v, q3, q4.ren hhd (fun k hk => ⟨τ k, by rw [hk]; rfl, hn k (hr _ (hole_some hk))⟩) (fun hk => by rw [hk]; rfl)⟩
end ren
/-- A function's contract, without a world: called with what realises 'args', where it owns 'h', it returns what realises r and leaves h', of which 'post' is told; nothing else that was there has turned. -/
def Con (P : Program) (mv : Nat → Bool) (f : Nat) (args : List AV) (h : List (Nat × OB)) (post : AV → List (Nat × OB) → Prop) : Prop :=
  ∀ (X : Nat → Prop) (β : Names) (w : World) (us : List Value), (∀ b, X b → b < w.heap.size) → (∀ e b, β e = some b → (get h e).isSome = true) → (∀ e j b, β.hd e j = some b → (get h e).isSome = true) → HR X β h w → AL X β w args us → GOK P X β w →
    Calls P f us.toArray w (fun e w' => ∃ v r h' β', e = .returned v ∧ post r h' ∧ AR X β' w' r v ∧ HR X β' h' w' ∧ Fr β w w' ∧
      (∀ e b, β' e = some b → (get h' e).isSome = true) ∧ (∀ e j b, β'.hd e j = some b → (get h' e).isSome = true) ∧ (∀ b, ownd β' b → w.heap.size ≤ b ∨ ownd β b) ∧ (∀ e, 1000 ≤ e → mv e = false → (get h' e).isSome = true → β' e = β e))
theorem Con.mono {P : Program} {mv : Nat → Bool} {f : Nat} {args : List AV} {h : List (Nat × OB)} {post post' : AV → List (Nat × OB) → Prop} (hc : Con P mv f args h post) (hp : ∀ r h', post r h' → post' r h') :
    Con P mv f args h post' :=
  fun X β w us hX hd hd2 hr ha hg => (hc X β w us hX hd hd2 hr ha hg).mono fun _ _ ⟨v, r, h', β', h1, h2, h3⟩ => ⟨v, r, h', β', h1, hp _ _ h2, h3⟩
def noMv : Nat → Bool := fun _ => false
def fitsR (P : Program) : List ResultVar → List XR → Bool
  | [], [] => true
  | .tmp t :: rs, .t n :: xs => Nat.beq t n && fitsR P rs xs
  | .cell a ty :: rs, .c1 n :: xs => Nat.beq a n && isOne P ty && fitsR P rs xs
  | .cell a ty :: rs, .cN n sz :: xs => Nat.beq a n && isRow P ty && szIs P ty sz && fitsR P rs xs
  | _, _ => false
def fitsF (P : Program) (f : Nat) (x : XF) : Bool :=
  match P.funcs[f]? with
  | some fn => Nat.beq fn.ntmps x.n && (match fn.body with | some c => fitsC P x.n x.code c | none => false) && fitsR P fn.results.toList x.res
  | none => false
/-- 'n' elements, written out. -/
def tkK {α : Type} : Nat → List α → Option (List α)
  | 0, _ => some []
  | _ + 1, [] => none
  | n + 1, x :: xs => match tkK n xs with
    | some l => some (x :: l)
    | none => none
theorem tkK_eq {α : Type} : ∀ {n : Nat} {l r : List α}, tkK n l = some r → r = l.take n ∧ n ≤ l.length
  | 0, l, r, h => by simp only [tkK, Option.some.injEq] at h; subst h; simp
  | n + 1, [], r, h => by simp [tkK] at h
  | n + 1, x :: xs, r, h => by
    rw [tkK] at h
    split at h
    · rename_i l hl
      cases h
      obtain ⟨h1, h2⟩ := tkK_eq hl
      exact ⟨by rw [h1, List.take_succ_cons], by simp; exact h2⟩
    · cases h
def evR (sl : List (Nat × AV)) (own : List (Nat × OB)) : XR → Option AV
  | .t n => get sl n
  | .c1 n => match get sl n with
    | some (.ptr e o) => match get own e with
      | some (.box cells) => cells[o]?
      | _ => none
    | _ => none
  | .cN n sz => match get sl n with
    | some (.ptr e o) => match get own e with
      | some (.box cells) => match tkK sz (cells.drop o) with
        | some cs => some (.agg cs)
        | none => none
      | _ => none
    | _ => none
def evRs (sl : List (Nat × AV)) (own : List (Nat × OB)) : List XR → Option (List AV)
  | [] => some []
  | x :: xs => match evR sl own x with
    | some v => match evRs sl own xs with
      | some vs => some (v :: vs)
      | none => none
    | none => none
def mkRes : List AV → AV
  | [x] => x
  | l => .tup l
def runR (tmps : Array Value) : ResultVar → Sem Value
  | .tmp t => pure (tmps.getD t undef)
  | .cell a t => do loadVar t (← asAddr (tmps.getD a undef))
theorem evRs_run {C : Cx} {st : St} {a : Act} {w : World} {β : Names} (S : SatB C st a w β) : ∀ {rs : List ResultVar} {xs : List XR} {vs : List AV}, fitsR C.P rs xs = true → evRs st.sl st.own xs = some vs →
    ∃ us : List Value, AL C.X β w vs us ∧ (rs.mapM (runR a.tmps)).run C.P w = Result.ok us w
  | [], [], vs, _, h => by
    simp only [evRs, Option.some.injEq] at h; subst h
    exact ⟨[], by simp [AL], by simp⟩
  | r :: rs, x :: xs, vs, hf, h => by
    simp only [evRs] at h
    split at h
    · rename_i y hy
      split at h
      · rename_i ys hys
        cases h
        have hone : fitsR C.P [r] [x] = true ∧ fitsR C.P rs xs = true := by
          cases r <;> cases x <;> simp [fitsR] at hf ⊢
          · exact hf
          · exact ⟨⟨hf.1.1, hf.1.2⟩, hf.2⟩
          · exact ⟨⟨⟨hf.1.1.1, hf.1.1.2⟩, hf.1.2⟩, hf.2⟩
        obtain ⟨us, h1, h2⟩ := evRs_run S hone.2 hys
        have key : ∃ u, AR C.X β w y u ∧ (runR a.tmps r).run C.P w = Result.ok u w := by
          have hf1 := hone.1
          cases r with
          | tmp t =>
            cases x with
            | t n =>
              simp only [fitsR, Bool.and_true] at hf1
              have := Nat.eq_of_beq_eq_true hf1
              subst this
              exact ⟨_, S.slots t y hy, rfl⟩
            | c1 n => simp [fitsR] at hf1
            | cN n sz => simp [fitsR] at hf1
          | cell x0 ty =>
            have hptr : ∀ e o cells, get st.sl x0 = some (.ptr e o) → get st.own e = some (.box cells) → ∃ b vs, a.tmps.getD x0 undef = .pointer (some ⟨b, o, none⟩) ∧ AL C.X β w cells vs ∧ w.rangeAt b 0 vs := by
              intro e o cells h3 h4
              have h5 := S.slots x0 _ h3
              rw [AR] at h5
              obtain ⟨b, hb, h5⟩ := h5
              have hob := S.hr.own e _ h4
              rw [hb] at hob
              obtain ⟨vs, h6, h7⟩ := box_vals hob
              exact ⟨b, vs, h5, h6, h7⟩
            cases x with
            | t n => simp [fitsR] at hf1
            | c1 n =>
              simp only [fitsR, Bool.and_true, Bool.and_eq_true] at hf1
              have := Nat.eq_of_beq_eq_true hf1.1
              subst this
              simp only [evR] at hy
              split at hy
              · rename_i e o h3
                split at hy
                · rename_i cells h4
                  obtain ⟨b, vs, h5, h6, h7⟩ := hptr e o cells h3 h4
                  obtain ⟨u, h8, h9⟩ := AL_get h6 o y hy
                  refine ⟨u, h9, ?_⟩
                  have h10 : w.cell? ⟨b, o, none⟩ = some u := by simpa using h7 o u h8
                  simp [runR, h5, asAddr, loadVar, isOne_run hf1.2, load, Sem.run, h10]
                · cases hy
              · cases hy
            | cN n sz =>
              simp only [fitsR, Bool.and_true, Bool.and_eq_true] at hf1
              have := Nat.eq_of_beq_eq_true hf1.1.1
              subst this
              simp only [evR] at hy
              split at hy
              · rename_i e o h3
                split at hy
                · rename_i cells h4
                  split at hy
                  · rename_i cs hcs
                    cases hy
                    obtain ⟨h11, h12⟩ := tkK_eq hcs
                    obtain ⟨b, vs, h5, h6, h7⟩ := hptr e o cells h3 h4
                    have hl := AL_len h6
                    refine ⟨.agg ((vs.drop o).take sz).toArray, ?_, ?_⟩
                    · rw [AR]; exact ⟨_, rfl, by rw [h11]; simpa using AL_take sz (AL_drop o h6)⟩
                    · have h8 : w.rangeAt b o ((vs.drop o).take sz) := by simpa using rangeAt_take (rangeAt_drop h7 o) sz
                      have h9 := loadMany (P := C.P) hf1.1.2 hf1.2 h8 (by simp at h12 ⊢; omega)
                      simp only [Instr.loadAt, Instr.sureAddr, Sem.run_bind, Sem.run_pure, Result.andThen_ok] at h9
                      simp only [runR, h5, asAddr, Sem.run_bind, Sem.run_pure, Result.andThen_ok, h9]
                  · cases hy
                · cases hy
              · cases hy
        obtain ⟨u, h3, h4⟩ := key
        refine ⟨u :: us, by rw [AL]; exact ⟨u, us, rfl, h3, h1⟩, ?_⟩
        simp only [List.mapM_cons, Sem.run_bind, h4, Result.andThen_ok, h2, Sem.run_pure]
      · cases h
    · cases h
  | [], _ :: _, _, hf, _ => by simp [fitsR] at hf
  | .tmp _ :: _, [], _, hf, _ => by simp [fitsR] at hf
  | .cell _ _ :: _, [], _, hf, _ => by simp [fitsR] at hf
end Go.AM

namespace Go.AM
def argS : Nat → List AV → List (Nat × AV)
  | _, [] => []
  | i, x :: xs => (i, x) :: argS (i + 1) xs
theorem argS_get : ∀ (xs : List AV) (i t : Nat) (x : AV), get (argS i xs) t = some x → i ≤ t ∧ xs[t - i]? = some x
  | [], i, t, x, h => by simp [argS, get] at h
  | y :: ys, i, t, x, h => by
    rw [argS, get_cons] at h
    split at h
    · rename_i e; subst e; cases h; simp
    · obtain ⟨h1, h2⟩ := argS_get ys (i + 1) t x h
      refine ⟨by omega, ?_⟩
      rw [show t - i = (t - (i + 1)) + 1 from by omega]; simpa using h2
/-- The entries of the names in 'N'. -/
def pickO : List Nat → List (Nat × OB) → Option (List (Nat × OB))
  | [], _ => some []
  | e :: es, own => match get own e with
    | some ob => match pickO es own with
      | some r => some ((e, ob) :: r)
      | none => none
    | none => none
def refsInO (N : List Nat) : OB → Bool
  | .box cs => refsInL N cs
  | .rows _ _ => true
  | .deep _ _ hs => hs.all (fun h => memb h.2.2 N)
  | .junk => true
theorem refsInO_ren {N : List Nat} {ob : OB} : refsInO N ob = true → match ob with | .box cs => refsInL N cs = true | .deep _ _ hs => ∀ h ∈ hs, h.2.2 ∈ N | _ => True := by
  intro h
  rcases ob with cs | ⟨sz, rs⟩ | ⟨sz, rs, hs⟩ | _
  · exact h
  · trivial
  · exact fun q hq => memb_iff.1 (List.all_eq_true.1 h q hq)
  · trivial
def refsInOs (N : List Nat) : List (Nat × OB) → Bool
  | [] => true
  | (_, ob) :: r => refsInO N ob && refsInOs N r
/-- The names' new names are apart, and those of what came in stay. -/
def okRen (σ : Nat → Nat) : List Nat → Bool
  | [] => true
  | e :: es => (Nat.beq (σ e) e || Nat.ble (σ e + 1) 1000) && !memb (σ e) (es.map σ) && okRen σ es
theorem pickO_mem : ∀ {N : List Nat} {own l : List (Nat × OB)}, pickO N own = some l → (∀ e ob, get l e = some ob → e ∈ N ∧ get own e = some ob) ∧ (∀ e ∈ N, (get l e).isSome = true)
  | [], own, l, h => by
    simp only [pickO, Option.some.injEq] at h; subst h
    exact ⟨fun e ob he => (by simp [get] at he), fun e he => (by cases he)⟩
  | k :: ks, own, l, h => by
    rw [pickO] at h
    split at h
    · rename_i ob hob
      split at h
      · rename_i r hr
        cases h
        obtain ⟨h1, h2⟩ := pickO_mem hr
        refine ⟨fun e ob' he => ?_, fun e he => ?_⟩
        · rw [get_cons] at he
          split at he
          · rename_i hk; subst hk; cases he; exact ⟨List.mem_cons_self, hob⟩
          · obtain ⟨h3, h4⟩ := h1 e ob' he
            exact ⟨List.mem_cons_of_mem _ h3, h4⟩
        · rw [get_cons]
          split
          · rfl
          · rename_i hk
            rcases List.mem_cons.1 he with rfl | he
            · exact absurd rfl hk
            · exact h2 e he
      · cases h
    · cases h
theorem okRen_inj : ∀ {σ : Nat → Nat} {N : List Nat}, okRen σ N = true → (∀ e ∈ N, ∀ e' ∈ N, σ e = σ e' → e = e') ∧ ∀ e ∈ N, 1000 ≤ σ e → σ e = e
  | σ, [], _ => ⟨fun e he => (by cases he), fun e he => (by cases he)⟩
  | σ, k :: ks, h => by
    simp only [okRen, Bool.and_eq_true, Bool.or_eq_true, Bool.not_eq_true'] at h
    obtain ⟨⟨h1, h2⟩, h3⟩ := h
    obtain ⟨h4, h5⟩ := okRen_inj h3
    have h2' : σ k ∉ ks.map σ := fun hm => by rw [memb_iff.2 hm] at h2; cases h2
    refine ⟨fun e he e' he' hs => ?_, fun e he hl => ?_⟩
    · rcases List.mem_cons.1 he with q1 | q1 <;> rcases List.mem_cons.1 he' with q2 | q2
      · rw [q1, q2]
      · rw [q1] at hs; exact absurd (hs ▸ List.mem_map_of_mem q2) h2'
      · rw [q2] at hs; exact absurd (hs ▸ List.mem_map_of_mem q1) h2'
      · exact h4 e q1 e' q2 hs
    · rcases List.mem_cons.1 he with rfl | he
      · rcases h1 with h1 | h1
        · exact Nat.eq_of_beq_eq_true h1
        · have := Nat.le_of_ble_eq_true h1; omega
      · exact h5 e he hl
theorem renOs_get : ∀ {σ : Nat → Nat} {l : List (Nat × OB)} {c : Nat} {ob : OB}, get (renOs σ l) c = some ob → ∃ e ob0, get l e = some ob0 ∧ σ e = c ∧ ob = renO σ ob0 ∧ (∀ e', (get l e').isSome = true → σ e' = c → True)
  | σ, [], c, ob, h => by simp [renOs, get] at h
  | σ, (e, ob0) :: r, c, ob, h => by
    rw [renOs, get_cons] at h
    split at h
    · rename_i hc; cases h
      exact ⟨e, ob0, get_cons_self _ _ _, hc, rfl, fun _ _ _ => trivial⟩
    · rename_i hc
      obtain ⟨e', ob1, h1, h2, h3, _⟩ := renOs_get h
      refine ⟨e', ob1, ?_, h2, h3, fun _ _ _ => trivial⟩
      rw [get_cons_ne]; exact h1
      intro he; rw [he] at hc; exact hc h2
/-- What a return comes to. -/
def RetK (res : List XR) (post : AV → List (Nat × OB) → Prop) (st : St) : Prop :=
  ∃ rs σ N l, evRs st.sl st.own res = some rs ∧ refsIn N (mkRes rs) = true ∧ pickO N st.own = some l ∧ refsInOs N l = true ∧ okRen σ N = true ∧ post (renA σ (mkRes rs)) (renOs σ l)
/-- Names for what is asked, out of the old names. -/
noncomputable def newN (σ : Nat → Nat) (N : List Nat) (β : Names) : Names := ⟨fun c => match N.find? (fun e => decide (σ e = c)) with
  | some e => β e
  | none => none, fun c j => match N.find? (fun e => decide (σ e = c)) with
  | some e => β.hd e j
  | none => none⟩
theorem newN_find {σ : Nat → Nat} {N : List Nat} (hi : ∀ e ∈ N, ∀ e' ∈ N, σ e = σ e' → e = e') {e : Nat} (he : e ∈ N) : N.find? (fun k => decide (σ k = σ e)) = some e := by
  cases h : N.find? (fun k => decide (σ k = σ e)) with
  | none => have := List.find?_eq_none.1 h e he; simp at this
  | some e' =>
    have h1 := List.find?_some h
    have h2 := List.mem_of_find?_eq_some h
    simp only [decide_eq_true_eq] at h1
    rw [hi e' h2 e he h1]
theorem newN_some {σ : Nat → Nat} {N : List Nat} {β : Names} (hi : ∀ e ∈ N, ∀ e' ∈ N, σ e = σ e' → e = e') {e : Nat} (he : e ∈ N) : newN σ N β (σ e) = β e := by
  show (match N.find? (fun k => decide (σ k = σ e)) with | some e => β e | none => none) = _
  rw [newN_find hi he]
theorem newN_hd {σ : Nat → Nat} {N : List Nat} {β : Names} (hi : ∀ e ∈ N, ∀ e' ∈ N, σ e = σ e' → e = e') {e : Nat} (he : e ∈ N) (j : Nat) : (newN σ N β).hd (σ e) j = β.hd e j := by
  show (match N.find? (fun k => decide (σ k = σ e)) with | some e => β.hd e j | none => none) = _
  rw [newN_find hi he]
theorem newN_of {σ : Nat → Nat} {N : List Nat} {β : Names} {c b : Nat} (h : newN σ N β c = some b) : ∃ e ∈ N, σ e = c ∧ β e = some b := by
  change (match N.find? (fun k => decide (σ k = c)) with | some e => β e | none => none) = _ at h
  split at h
  · rename_i e h1
    have h2 := List.find?_some h1
    simp only [decide_eq_true_eq] at h2
    exact ⟨e, List.mem_of_find?_eq_some h1, h2, h⟩
  · cases h
theorem newN_hof {σ : Nat → Nat} {N : List Nat} {β : Names} {c j b : Nat} (h : (newN σ N β).hd c j = some b) : ∃ e ∈ N, σ e = c ∧ β.hd e j = some b := by
  change (match N.find? (fun k => decide (σ k = c)) with | some e => β.hd e j | none => none) = _ at h
  split at h
  · rename_i e h1
    have h2 := List.find?_some h1
    simp only [decide_eq_true_eq] at h2
    exact ⟨e, List.mem_of_find?_eq_some h1, h2, h⟩
  · cases h
theorem newN_own {σ : Nat → Nat} {N : List Nat} {β : Names} {b : Nat} (h : ownd (newN σ N β) b) : ownd β b := by
  rcases h with ⟨e, h⟩ | ⟨e, j, h⟩
  · obtain ⟨e', _, _, h3⟩ := newN_of h; exact .inl ⟨e', h3⟩
  · obtain ⟨e', _, _, h3⟩ := newN_hof h; exact .inr ⟨e', j, h3⟩
theorem newN_XH {σ : Nat → Nat} {N : List Nat} {β : Names} {X : Nat → Prop} {b : Nat} (h : XH X (newN σ N β) b) : XH X β b := by
  rcases h with h | ⟨e, j, h⟩
  · exact .inl h
  · obtain ⟨e', _, _, h3⟩ := newN_hof h; exact .inr ⟨e', j, h3⟩
theorem refsInOs_get : ∀ {N : List Nat} {l : List (Nat × OB)} {e : Nat} {ob : OB}, refsInOs N l = true → get l e = some ob → refsInO N ob = true
  | N, (k, o) :: r, e, ob, h, hg => by
    simp only [refsInOs, Bool.and_eq_true] at h
    rw [get_cons] at hg
    split at hg
    · cases hg; exact h.1
    · exact refsInOs_get h.2 hg
theorem isSome_renOs {σ : Nat → Nat} : ∀ {l : List (Nat × OB)} {e : Nat}, (get l e).isSome = true → (get (renOs σ l) (σ e)).isSome = true
  | (k, ob) :: r, e, h => by
    rw [renOs, get_cons]
    split
    · rfl
    · rename_i hk
      rw [get_cons_ne ob r (fun he => hk (by rw [he]))] at h
      exact isSome_renOs h
theorem con_of {P : Program} {mv : Nat → Bool} {f : Nat} {args : List AV} {h : List (Nat × OB)} {post : AV → List (Nat × OB) → Prop} (x : XF) (hx : fitsF P f x = true) (hn : Nat.ble args.length x.n = true)
    (hax : ∀ C : Cx, C.P = P → C.mv = mv → AX C x.code ⟨argS 0 args, h⟩ (RetK x.res post) [] (RetK x.res post)) : Con P mv f args h post := by
  intro X β w us hX hd hd2 H A hg
  unfold fitsF at hx
  split at hx
  · rename_i fn hfn
    simp only [Bool.and_eq_true] at hx
    obtain ⟨⟨h0, h1⟩, h2⟩ := hx
    have h0 := Nat.eq_of_beq_eq_true h0
    split at h1
    · rename_i c hc
      have hlen := AL_len A
      have hn := Nat.le_of_ble_eq_true hn
      refine calls_of_wp hfn hc ?_
      let C : Cx := ⟨P, x.n, w, X, β, mv, hg⟩
      have S : SatB C ⟨argS 0 args, h⟩ { tmps := us.toArray ++ Array.replicate (fn.ntmps - us.toArray.size) undef, defers := [] } w β := {
        tsize := by show _ = x.n; simp; omega
        df := rfl
        slots := fun t y hy => by
          obtain ⟨_, h3⟩ := argS_get args 0 t y hy
          obtain ⟨u, h4, h5⟩ := AL_get A t y (by simpa using h3)
          have : (us.toArray ++ Array.replicate (fn.ntmps - us.toArray.size) undef).getD t undef = u := by
            rw [Array.getD_eq_getD_getElem?, Array.getElem?_append_left (by
              rcases Nat.lt_or_ge t us.length with h | h
              · simpa using h
              · rw [List.getElem?_eq_none h] at h4; cases h4)]
            simp [h4]
          rw [this]; exact h5
        hr := H
        mine := fun b hb => .inr hb
        stay := fun e _ _ => rfl
        fr := ⟨rfl, rfl, rfl, Nat.le_refl _, fun _ _ _ => rfl, fun b c ty fr hb => ⟨c, ty, fr, hb, rfl⟩⟩
        xlt := hX }
      have key : ∀ st a w', RetK x.res post st → Sat C st a w' → a.defers = [] ∧ ∃ v, (results fn a.tmps).run P w' = .ok v w' ∧ ∃ r h' β', Ending.returned v = .returned v ∧ post r h' ∧ AR X β' w' r v ∧ HR X β' h' w' ∧ Fr β w w' ∧
          (∀ e b, β' e = some b → (get h' e).isSome = true) ∧ (∀ e j b, β'.hd e j = some b → (get h' e).isSome = true) ∧ (∀ b, ownd β' b → w.heap.size ≤ b ∨ ownd β b) ∧ (∀ e, 1000 ≤ e → mv e = false → (get h' e).isSome = true → β' e = β e) := by
        rintro st a w' ⟨rs, σ, N, l, k1, k2, k3, k4, k5, k6⟩ ⟨β1, S1⟩
        refine ⟨S1.df, ?_⟩
        obtain ⟨us', k7, k8⟩ := evRs_run S1 h2 k1
        have k9 : (fn.results.mapM (runR a.tmps)).run P w' = .ok us'.toArray w' := by
          rw [← Array.toArray_toList (xs := fn.results)]
          rw [List.mapM_toArray, map_eq_pure_bind, Sem.run_bind, k8]
          rfl
        have k10 : (results fn a.tmps).run P w' = .ok (if h : us'.toArray.size = 1 then us'.toArray[0] else .tuple us'.toArray) w' := by
          show (do let vs ← fn.results.mapM (runR a.tmps); pure (if h : vs.size = 1 then vs[0] else Value.tuple vs) : Sem Value).run P w' = _
          rw [Sem.run_bind, k9]
          rfl
        refine ⟨_, k10, renA σ (mkRes rs), renOs σ l, newN σ N β1, rfl, k6, ?_⟩
        obtain ⟨i1, i2⟩ := okRen_inj k5
        obtain ⟨p1, p2⟩ := pickO_mem k3
        have hok : ∀ b, b < w'.heap.size → okf X β1 b → okf X (newN σ N β1) b := fun b _ ⟨q1, q2⟩ => ⟨fun hx => q1 (newN_XH hx), fun e he => by
          obtain ⟨e', _, _, q3⟩ := newN_of he
          exact q2 e' q3⟩
        have hA : AR X β1 w' (mkRes rs) (if h : us'.toArray.size = 1 then us'.toArray[0] else .tuple us'.toArray) := by
          have hl := AL_len k7
          match rs, us', k7, hl with
          | [], us', k7, hl =>
            have : us' = [] := by simpa using hl
            subst this
            rw [mkRes, AR]
            · exact ⟨#[], rfl, by rw [AL]⟩
            · intro y hy; cases hy
          | [y], us', k7, hl =>
            rw [AL] at k7
            obtain ⟨u, r, rfl, k11, k12⟩ := k7
            rw [AL] at k12
            subst k12
            simpa [mkRes] using k11
          | y :: z :: t, us', k7, hl =>
            have : ¬ us'.toArray.size = 1 := by simp at hl ⊢; omega
            rw [dif_neg this, mkRes, AR]
            · exact ⟨_, rfl, by simpa using k7⟩
            · intro q hq; simp at hq
        refine ⟨AR.ren (sc := false) (N := N) (fun e he => newN_some i1 he) (.inl hok) _ _ k2 (fun h => by cases h) hA, ?_, S1.fr, ?_, ?_, ?_, ?_⟩
        · exact {
            inj := fun e e' b q1 q2 => by
              obtain ⟨d, _, q3, q4⟩ := newN_of q1
              obtain ⟨d', _, q5, q6⟩ := newN_of q2
              rw [← q3, ← q5, S1.hr.inj d d' b q4 q6]
            lt := fun e b q1 => by
              obtain ⟨d, _, q3, q4⟩ := newN_of q1
              exact S1.hr.lt d b q4
            notX := fun e b q1 => by
              obtain ⟨d, _, q3, q4⟩ := newN_of q1
              exact fun hx => S1.hr.notX d b q4 (newN_XH hx)
            hlt := fun e j b q1 => by
              obtain ⟨d, _, q3, q4⟩ := newN_hof q1
              exact S1.hr.hlt d j b q4
            hinj := fun e j e' j' b q1 q2 => by
              obtain ⟨d, _, q3, q4⟩ := newN_hof q1
              obtain ⟨d', _, q5, q6⟩ := newN_hof q2
              rw [← q3, ← q5, S1.hr.hinj d j d' j' b q4 q6]
            hX := fun e j b q1 => by
              obtain ⟨d, _, q3, q4⟩ := newN_hof q1
              exact S1.hr.hX d j b q4
            own := fun e ob q1 => by
              obtain ⟨d, ob0, q2, q3, q4, _⟩ := renOs_get q1
              obtain ⟨q5, q6⟩ := p1 d ob0 q2
              subst q4 q3
              rw [newN_some i1 q5]
              refine OBR.ren (sc := false) (N := N) (fun e he => newN_some i1 he) (.inl hok) (newN_hd i1 q5) ?_ (fun h => by cases h) (S1.hr.own d ob0 q6)
              exact refsInO_ren (refsInOs_get k4 q2) }
        · intro e b q1
          obtain ⟨d, q2, q3, q4⟩ := newN_of q1
          rw [← q3]; exact isSome_renOs (p2 d q2)
        · intro e j b q1
          obtain ⟨d, q2, q3, q4⟩ := newN_hof q1
          rw [← q3]; exact isSome_renOs (p2 d q2)
        · exact fun b q1 => S1.mine b (newN_own q1)
        · intro e he hm hs
          obtain ⟨ob, hob⟩ := Option.isSome_iff_exists.1 hs
          obtain ⟨d, ob0, q2, q3, _, _⟩ := renOs_get hob
          obtain ⟨q5, _⟩ := p1 d ob0 q2
          have hd2 := i2 d q5 (by rw [q3]; exact he)
          rw [← q3, newN_some i1 q5]
          rw [hd2] at q3 ⊢
          subst q3
          exact S1.stay d he hm
      refine wp_mono (hax C rfl rfl c h1 _ w ⟨β, S⟩) ?_
      intro e a w' hl
      cases e with
      | normal =>
        obtain ⟨st, k1, k2⟩ := hl
        obtain ⟨k3, v, k4, r, h', β', k5, k6⟩ := key st a w' k1 k2
        exact ⟨k3, v, k4, v, r, h', β', k5, k6⟩
      | ret =>
        obtain ⟨st, k1, k2⟩ := hl
        obtain ⟨k3, v, k4, r, h', β', k5, k6⟩ := key st a w' k1 k2
        exact ⟨k3, v, k4, v, r, h', β', k5, k6⟩
      | exit id => obtain ⟨K, st, k1, _⟩ := hl; simp [get] at k1
      | goto l => exact hl.elim
      | panic ch => exact hl.elim
      | outgrown => exact hl.elim
    · cases h1
  · cases hx
mutual
theorem renA_id : ∀ x, renA id x = x
  | .ptr e o => by rw [renA]; rfl
  | .rptr e sz i o => by rw [renA]; rfl
  | .osl e sz s len => by rw [renA]; rfl
  | .oslc e sz s len cap => by rw [renA]; rfl
  | .agg cs => by rw [renA, renL_id cs]
  | .tup cs => by rw [renA, renL_id cs]
  | .fn f cs => by rw [renA, renL_id cs]
  | .bfn f cs => by rw [renA, renL_id cs]
  | .d x => by rw [renA]
  | .zs _ => by rw [renA]
  | .raw v => by rw [renA]
  | .dead => by rw [renA]
theorem renL_id : ∀ xs, renL id xs = xs
  | [] => by rw [renL]
  | x :: xs => by rw [renL, renA_id x, renL_id xs]
end
/-- A return that hands back nothing own. -/
theorem ret0 {res : List XR} {post : AV → List (Nat × OB) → Prop} {st : St} {rs : List AV} (h1 : evRs st.sl st.own res = some rs) (h2 : refsIn [] (mkRes rs) = true) (h3 : post (mkRes rs) []) : RetK res post st := by
  refine ⟨rs, id, [], [], h1, h2, rfl, rfl, rfl, ?_⟩
  rw [renA_id]; exact h3
theorem retN {res : List XR} {post : AV → List (Nat × OB) → Prop} {st : St} {rs : List AV} {l : List (Nat × OB)} (σ : Nat → Nat) (N : List Nat) (h1 : evRs st.sl st.own res = some rs) (h2 : refsIn N (mkRes rs) = true) (h3 : pickO N st.own = some l)
    (h4 : refsInOs N l = true) (h5 : okRen σ N = true) (h6 : post (renA σ (mkRes rs)) (renOs σ l)) : RetK res post st :=
  ⟨rs, σ, N, l, h1, h2, h3, h4, h5, h6⟩
end Go.AM

namespace Go.AM
def noN : Names := ⟨fun _ => none, fun _ _ => none⟩
theorem noN_own {b : Nat} (h : ownd noN b) : False := by
  rcases h with ⟨e, h⟩ | ⟨e, j, h⟩ <;> cases h
theorem noN_XH {X : Nat → Prop} {b : Nat} (h : XH X noN b) : X b := by
  rcases h with h | ⟨e, j, h⟩
  · exact h
  · cases h
theorem get_append {α : Type} : ∀ (l l' : List (Nat × α)) (k : Nat), get (l ++ l') k = match get l k with | some x => some x | none => get l' k
  | [], l', k => rfl
  | (j, x) :: r, l', k => by
    rw [List.cons_append, get_cons, get_cons, get_append r l' k]
    split <;> rfl
theorem nrS_get {d : Nat} : ∀ {sl : List (Nat × AV)} {t : Nat} {x : AV}, nrS d sl = true → get sl t = some x → nrA d x = true
  | (k, y) :: r, t, x, h, hg => by
    simp only [nrS, Bool.and_eq_true] at h
    rw [get_cons] at hg
    split at hg
    · cases hg; exact h.1
    · exact nrS_get h.2 hg
theorem nrOs_get {d : Nat} : ∀ {own : List (Nat × OB)} {t : Nat} {x : OB}, nrOs d own = true → get own t = some x → nrO d x = true
  | (k, y) :: r, t, x, h, hg => by
    simp only [nrOs, Bool.and_eq_true] at h
    rw [get_cons] at hg
    split at hg
    · cases hg; exact h.1
    · exact nrOs_get h.2 hg
mutual
theorem pg_nrs (ns : List Nat) : ∀ x, (∀ n ∈ ns, nrA n x = true) → pg (fun e => memb e ns) x = x
  | .ptr e o, h => by
    rw [pg]
    cases hm : memb e ns with
    | false => rfl
    | true => have := h e (memb_iff.1 hm); rw [nrA] at this; simp at this
  | .rptr e sz i o, h => by
    rw [pg]
    cases hm : memb e ns with
    | false => rfl
    | true => have := h e (memb_iff.1 hm); rw [nrA] at this; simp at this
  | .osl e sz s len, h => by
    rw [pg]
    cases hm : memb e ns with
    | false => rfl
    | true => have := h e (memb_iff.1 hm); rw [nrA] at this; simp at this
  | .oslc e sz s len cap, h => by
    rw [pg]
    cases hm : memb e ns with
    | false => rfl
    | true => have := h e (memb_iff.1 hm); rw [nrA] at this; simp at this
  | .agg cs, h => by rw [pg, pgL_nrs ns cs (fun n hn => by have := h n hn; rwa [nrA] at this)]
  | .tup cs, h => by rw [pg, pgL_nrs ns cs (fun n hn => by have := h n hn; rwa [nrA] at this)]
  | .fn f cs, h => by rw [pg, pgL_nrs ns cs (fun n hn => by have := h n hn; rwa [nrA] at this)]
  | .bfn f cs, h => by rw [pg, pgL_nrs ns cs (fun n hn => by have := h n hn; rwa [nrA] at this)]
  | .d x, _ => by rw [pg]
  | .zs _, _ => by rw [pg]
  | .raw v, _ => by rw [pg]
  | .dead, _ => by rw [pg]
theorem pgL_nrs (ns : List Nat) : ∀ xs, (∀ n ∈ ns, nrL n xs = true) → pgL (fun e => memb e ns) xs = xs
  | [], _ => by rw [pgL]
  | x :: xs, h => by
    rw [pgL, pg_nrs ns x (fun n hn => by have := h n hn; rw [nrL, Bool.and_eq_true] at this; exact this.1), pgL_nrs ns xs (fun n hn => by have := h n hn; rw [nrL, Bool.and_eq_true] at this; exact this.2)]
end
theorem pgO_nrs (ns : List Nat) (x : OB) (h : ∀ n ∈ ns, nrO n x = true) : pgO (fun e => memb e ns) x = x := by
  cases x with
  | box cs => rw [pgO, pgL_nrs ns cs (fun n hn => by have := h n hn; rwa [nrO] at this)]
  | rows sz rs => rfl
  | junk => rfl
  | deep sz rs hs =>
    rw [pgO, show hs.any (fun h => memb h.2.2 ns) = false from List.any_eq_false.2 (fun q hq => by
      cases hm : memb q.2.2 ns with
      | false => simp
      | true =>
        have := h q.2.2 (memb_iff.1 hm)
        rw [nrO] at this
        have := List.all_eq_true.1 this q hq
        simp at this)]; rfl
/-- The new names are free. -/
def freeN (sl : List (Nat × AV)) (own : List (Nat × OB)) : List Nat → Bool
  | [] => true
  | n :: ns => Nat.ble (n + 1) 1000 && nrS n sl && nrOs n own && !memb n ns && freeN sl own ns
theorem freeN_spec {sl : List (Nat × AV)} {own : List (Nat × OB)} : ∀ {ns : List Nat}, freeN sl own ns = true → ∀ n ∈ ns, n < 1000 ∧ nrS n sl = true ∧ nrOs n own = true
  | m :: ns, h, n, hn => by
    simp only [freeN, Bool.and_eq_true] at h
    rcases List.mem_cons.1 hn with rfl | hn
    · exact ⟨by have := Nat.le_of_ble_eq_true h.1.1.1.1; omega, h.1.1.1.2, h.1.1.2⟩
    · exact freeN_spec h.2 n hn
theorem freeN_inj {sl : List (Nat × AV)} {own : List (Nat × OB)} {τ : Nat → Nat} : ∀ {N : List Nat}, freeN sl own (N.map τ) = true → ∀ e ∈ N, ∀ e' ∈ N, τ e = τ e' → e = e'
  | k :: ks, h, e, he, e', he', hs => by
    simp only [List.map_cons, freeN, Bool.and_eq_true, Bool.not_eq_true'] at h
    obtain ⟨⟨h1, h2⟩, h3⟩ := h
    have h2' : τ k ∉ ks.map τ := fun hm => by rw [memb_iff.2 hm] at h2; cases h2
    rcases List.mem_cons.1 he with q1 | q1 <;> rcases List.mem_cons.1 he' with q2 | q2
    · rw [q1, q2]
    · rw [q1] at hs; exact absurd (hs ▸ List.mem_map_of_mem q2) h2'
    · rw [q2] at hs; exact absurd (hs ▸ List.mem_map_of_mem q1) h2'
    · exact freeN_inj h3 e q1 e' q2 hs
def domIs (h : List (Nat × OB)) : List Nat → Bool
  | [] => true
  | n :: ns => (match get h n with | some _ => true | none => false) && domIs h ns
def domIn (N : List Nat) : List (Nat × OB) → Bool
  | [] => true
  | (e, _) :: r => memb e N && domIn N r
theorem domIs_spec {h : List (Nat × OB)} : ∀ {N : List Nat}, domIs h N = true → ∀ n ∈ N, (get h n).isSome = true
  | m :: ns, hd, n, hn => by
    simp only [domIs, Bool.and_eq_true] at hd
    rcases List.mem_cons.1 hn with rfl | hn
    · have := hd.1
      split at this
      · rename_i h1; rw [h1]; rfl
      · cases this
    · exact domIs_spec hd.2 n hn
theorem domIn_spec {N : List Nat} : ∀ {h : List (Nat × OB)}, domIn N h = true → ∀ n, (get h n).isSome = true → n ∈ N
  | (e, ob) :: r, hd, n, hn => by
    simp only [domIn, Bool.and_eq_true] at hd
    rw [get_cons] at hn
    split at hn
    · rename_i he; subst he; exact memb_iff.1 hd.1
    · exact domIn_spec hd.2 n hn
/-- What a call may hand on to its caller. -/
structure ResOK (sl : List (Nat × AV)) (own : List (Nat × OB)) (sc : Bool) (τ : Nat → Nat) (N : List Nat) (r : AV) (h' : List (Nat × OB)) : Prop where
  refs : refsIn N r = true
  dom : domIs h' N = true
  domIn : domIn N h' = true
  refsO : refsInOs N h' = true
  free : freeN sl own (N.map τ) = true
  sc : sc = true → noIsl r = true ∧ ∀ e ob, get h' e = some ob → noIslO ob
noncomputable def mergeN (τ : Nat → Nat) (N : List Nat) (β' β : Names) : Names := ⟨fun n => bif memb n (N.map τ) then newN τ N β' n else β n, fun n j => bif memb n (N.map τ) then (newN τ N β').hd n j else β.hd n j⟩
theorem vcall_gen {P : Program} {mv : Nat → Bool} {f : Nat} {args0 : List AV} {post : AV → List (Nat × OB) → Prop} (hcon : Con P mv f args0 [] post) {C : Cx} (hP : C.P = P) {sl : List (Nat × AV)} {own : List (Nat × OB)} {vs : List AV}
    {K : AV → St → Prop} (sc : Bool)
    (hargs : ∀ a w β us, SatB C ⟨sl, own⟩ a w β → AL C.X β w vs us → AL (fun b => C.X b ∨ (sc = false ∧ ownd β b)) noN w args0 us)
    (hres : ∀ r h', post r h' → ∃ τ N, ResOK sl own sc τ N r h' ∧ K (renA τ r) ⟨sl, renOs τ h' ++ own⟩) : VCall C ⟨sl, own⟩ f vs K := by
  intro a w β us S A
  subst hP
  have hA := hargs a w β us S A
  have hXlt : ∀ b, (C.X b ∨ (sc = false ∧ ownd β b)) → b < w.heap.size := by
    rintro b (h | ⟨_, ⟨e, h⟩ | ⟨e, j, h⟩⟩)
    · have := S.xlt b h; have := S.fr.size; omega
    · exact S.hr.lt e b h
    · exact S.hr.hlt e j b h
  refine (hcon (fun b => C.X b ∨ (sc = false ∧ ownd β b)) noN w us hXlt (fun e b h => by cases h) (fun e j b h => by cases h) ⟨fun e e' b h => (by cases h), fun e b h => (by cases h), fun e b h => (by cases h), fun e j b h => (by cases h), fun e j e' j' b h => (by cases h), fun e j b h => (by cases h), fun e ob h => (by simp [get] at h)⟩ hA (S.gok.sub (fun b h => h.imp id (fun h => h.2)) (fun b h => (noN_own h).elim))).mono ?_
  rintro e w' ⟨v, r, h', β', he, hp, hr, H', F, hdom, hdom2, hmine, hst⟩
  obtain ⟨τ, N, R, hK⟩ := hres r h' hp
  have hfree := freeN_spec R.free
  have hinj := freeN_inj (τ := τ) R.free
  have hbg : ∀ b, ownd β' b → w.heap.size ≤ b := fun b h => (hmine b h).elim id (fun h => (noN_own h).elim)
  have hbig : ∀ e b, β' e = some b → w.heap.size ≤ b := fun e b h => hbg b (.inl ⟨e, h⟩)
  have hbigH : ∀ e j b, β'.hd e j = some b → w.heap.size ≤ b := fun e j b h => hbg b (.inr ⟨e, j, h⟩)
  have hm1 : ∀ n, memb n (N.map τ) = true → mergeN τ N β' β n = newN τ N β' n := fun n h => by show (bif memb n (N.map τ) then _ else _) = _; rw [h]; rfl
  have hm2 : ∀ n, memb n (N.map τ) = false → mergeN τ N β' β n = β n := fun n h => by show (bif memb n (N.map τ) then _ else _) = _; rw [h]; rfl
  have hk1 : ∀ n j, memb n (N.map τ) = true → (mergeN τ N β' β).hd n j = (newN τ N β').hd n j := fun n j h => by show (bif memb n (N.map τ) then _ else _) = _; rw [h]; rfl
  have hk2 : ∀ n j, memb n (N.map τ) = false → (mergeN τ N β' β).hd n j = β.hd n j := fun n j h => by show (bif memb n (N.map τ) then _ else _) = _; rw [h]; rfl
  have hkN : ∀ e ∈ N, ∀ j, (mergeN τ N β' β).hd (τ e) j = β'.hd e j := fun e he j => by
    rw [hk1 _ j (memb_iff.2 (List.mem_map_of_mem he)), newN_hd hinj he]
  have hkc : ∀ n j b, (mergeN τ N β' β).hd n j = some b → (∃ e ∈ N, τ e = n ∧ β'.hd e j = some b) ∨ (memb n (N.map τ) = false ∧ β.hd n j = some b) := fun n j b h => by
    cases hm : memb n (N.map τ) with
    | true => rw [hk1 n j hm] at h; exact .inl (newN_hof h)
    | false => rw [hk2 n j hm] at h; exact .inr ⟨rfl, h⟩
  have hmN : ∀ e ∈ N, mergeN τ N β' β (τ e) = β' e := fun e he => by
    rw [hm1 _ (memb_iff.2 (List.mem_map_of_mem he)), newN_some hinj he]
  have hmc : ∀ n b, mergeN τ N β' β n = some b → (∃ e ∈ N, τ e = n ∧ β' e = some b) ∨ (memb n (N.map τ) = false ∧ β n = some b) := fun n b h => by
    cases hm : memb n (N.map τ) with
    | true => rw [hm1 n hm] at h; exact .inl (newN_of h)
    | false => rw [hm2 n hm] at h; exact .inr ⟨rfl, h⟩
  have E : Ext w w' := ⟨F.os, F.tape, F.output, F.size, fun b hb => F.same b hb noN_own⟩
  have T : Tr C.X C.X (fun n => memb n (N.map τ)) β (mergeN τ N β' β) w w' := {
    keep := ⟨E.size, fun b _ hb => E.same b hb, fun b ⟨h1, h2⟩ hb => ⟨fun hx => by
      rcases hx with hx | ⟨n, j, hx⟩
      · exact h1 (.inl hx)
      · rcases hkc n j b hx with ⟨e, _, _, h3⟩ | ⟨_, h3⟩
        · have := hbigH e j b h3; omega
        · exact h1 (.inr ⟨n, j, h3⟩), fun n hn => by
      rcases hmc n b hn with ⟨e, _, _, h3⟩ | ⟨_, h3⟩
      · have := hbig e b h3; omega
      · exact h2 n h3⟩⟩
    name := fun n b hp hb => by rw [hm2 n hp]; exact hb
    bsize := fun n b c ty fr _ hb hh => ⟨c, ty, fr, by rw [E.same b (S.hr.lt n b hb)]; exact hh, rfl⟩ }
  have hok : (∀ b, b < w'.heap.size → okf (fun b => C.X b ∨ (sc = false ∧ ownd β b)) β' b → okf C.X (mergeN τ N β' β) b) ∨ sc = true := by
    cases sc with
    | true => exact .inr rfl
    | false =>
      refine .inl fun b _ ⟨h1, h2⟩ => ⟨fun hx => ?_, fun n hn => ?_⟩
      · rcases hx with hx | ⟨n, j, hx⟩
        · exact h1 (.inl (.inl hx))
        · rcases hkc n j b hx with ⟨e, _, _, h3⟩ | ⟨_, h3⟩
          · exact h1 (.inr ⟨e, j, h3⟩)
          · exact h1 (.inl (.inr ⟨rfl, .inr ⟨n, j, h3⟩⟩))
      · rcases hmc n b hn with ⟨e, _, _, h3⟩ | ⟨_, h3⟩
        · exact h2 e h3
        · exact h1 (.inl (.inr ⟨rfl, .inl ⟨n, h3⟩⟩))
  refine ⟨v, renA τ r, _, mergeN τ N β' β, he, hK, ?_, AR.ren (N := N) hmN hok r v R.refs (fun h => (R.sc h).1) hr⟩
  exact {
    tsize := S.tsize
    df := S.df
    slots := fun t x hx => by
      have := AR.pg T x _ (S.slots t x hx)
      rwa [pg_nrs _ x (fun n hn => nrS_get (hfree n hn).2.1 hx)] at this
    hr := {
      inj := fun n n' b h1 h2 => by
        rcases hmc n b h1 with ⟨e, q1, q2, q3⟩ | ⟨q1, q2⟩ <;> rcases hmc n' b h2 with ⟨e', p1, p2, p3⟩ | ⟨p1, p2⟩
        · rw [← q2, ← p2, H'.inj e e' b q3 p3]
        · have := hbig e b q3; have := S.hr.lt n' b p2; omega
        · have := hbig e' b p3; have := S.hr.lt n b q2; omega
        · exact S.hr.inj n n' b q2 p2
      lt := fun n b h1 => by
        rcases hmc n b h1 with ⟨e, q1, q2, q3⟩ | ⟨q1, q2⟩
        · exact H'.lt e b q3
        · have := S.hr.lt n b q2; have := E.size; omega
      notX := fun n b h1 hx => by
        rcases hmc n b h1 with ⟨e, q1, q2, q3⟩ | ⟨q1, q2⟩
        · rcases hx with hx | ⟨n', j, hx⟩
          · have := hbig e b q3; have := S.xlt b hx; have := S.fr.size; omega
          · rcases hkc n' j b hx with ⟨e', _, _, h3⟩ | ⟨_, h3⟩
            · exact H'.notX e b q3 (.inr ⟨e', j, h3⟩)
            · have := hbig e b q3; have := S.hr.hlt n' j b h3; omega
        · rcases hx with hx | ⟨n', j, hx⟩
          · exact S.hr.notX n b q2 (.inl hx)
          · rcases hkc n' j b hx with ⟨e', _, _, h3⟩ | ⟨_, h3⟩
            · have := hbigH e' j b h3; have := S.hr.lt n b q2; omega
            · exact S.hr.notX n b q2 (.inr ⟨n', j, h3⟩)
      hlt := fun n j b h1 => by
        rcases hkc n j b h1 with ⟨e, q1, q2, q3⟩ | ⟨q1, q2⟩
        · exact H'.hlt e j b q3
        · have := S.hr.hlt n j b q2; have := E.size; omega
      hinj := fun n j n' j' b h1 h2 => by
        rcases hkc n j b h1 with ⟨e, q1, q2, q3⟩ | ⟨q1, q2⟩ <;> rcases hkc n' j' b h2 with ⟨e', p1, p2, p3⟩ | ⟨p1, p2⟩
        · rw [← q2, ← p2, H'.hinj e j e' j' b q3 p3]
        · have := hbigH e j b q3; have := S.hr.hlt n' j' b p2; omega
        · have := hbigH e' j' b p3; have := S.hr.hlt n j b q2; omega
        · exact S.hr.hinj n j n' j' b q2 p2
      hX := fun n j b h1 hx => by
        rcases hkc n j b h1 with ⟨e, q1, q2, q3⟩ | ⟨q1, q2⟩
        · exact H'.hX e j b q3 (.inl hx)
        · exact S.hr.hX n j b q2 hx
      own := fun n ob hn => by
        rw [get_append] at hn
        split at hn
        · rename_i y hy
          cases hn
          obtain ⟨e, ob0, q1, q2, q3, _⟩ := renOs_get hy
          have he : e ∈ N := domIn_spec R.domIn e (by rw [q1]; rfl)
          subst q2 q3
          rw [hmN e he]
          refine OBR.ren (N := N) hmN hok (hkN e he) ?_ (fun h => (R.sc h).2 e ob0 q1) (H'.own e ob0 q1)
          exact refsInO_ren (refsInOs_get R.refsO q1)
        · rename_i hy
          have hnm : memb n (N.map τ) = false := by
            cases hm : memb n (N.map τ) with
            | false => rfl
            | true =>
              obtain ⟨e, q1, q2⟩ := List.mem_map.1 (memb_iff.1 hm)
              have := isSome_renOs (σ := τ) (domIs_spec R.dom e q1)
              rw [q2, hy] at this; cases this
          rw [hm2 n hnm]
          have := OBR.pg T (b := β n) (fun k hk => E.same k (S.hr.lt n k hk)) (fun j k hk => ⟨by rw [hk2 n j hnm]; exact hk, E.same k (S.hr.hlt n j k hk)⟩) (S.hr.own n ob hn)
          rwa [pgO_nrs _ ob (fun m hm => nrOs_get (hfree m hm).2.2 hn)] at this }
    mine := fun b h1 => by
      rcases h1 with ⟨n, h1⟩ | ⟨n, j, h1⟩
      · rcases hmc n b h1 with ⟨e, q1, q2, q3⟩ | ⟨q1, q2⟩
        · have := hbig e b q3; have := S.fr.size; left; omega
        · exact S.mine b (.inl ⟨n, q2⟩)
      · rcases hkc n j b h1 with ⟨e, q1, q2, q3⟩ | ⟨q1, q2⟩
        · have := hbigH e j b q3; have := S.fr.size; left; omega
        · exact S.mine b (.inr ⟨n, j, q2⟩)
    stay := fun n hn hm => by
      have hnm : memb n (N.map τ) = false := by
        cases hmm : memb n (N.map τ) with
        | false => rfl
        | true => have := (hfree n (memb_iff.1 hmm)).1; omega
      rw [hm2 n hnm]; exact S.stay n hn hm
    fr := S.fr.ext E
    xlt := S.xlt }
/-- A cell of which something is known. -/
def noNil : D → Bool
  | .nilp => false
  | _ => true
mutual
inductive Lend (own : List (Nat × OB)) : AV → D → Prop
  | d (x : D) : Lend own (.d x) x
  | zs (sz : Nat) : Lend own (.zs sz) (.sl sz [])
  | osl {e sz s len : Nat} {rs rs' : List (List D)} (h : get own e = some (.rows sz rs)) (hl : s + len ≤ rs.length) (hr : rs' = (rs.drop s).take len) : Lend own (.osl e sz s len) (.sl sz rs')
  | ptr {e o : Nat} {cells : List AV} {ds : List D} (h : get own e = some (.box cells)) (hl : LendL own (cells.drop o) ds) : Lend own (.ptr e o) (.ip ds)
  | rptr {e sz i o : Nat} {rs : List (List D)} {r : List D} (h : get own e = some (.rows sz rs)) (hr : rs[i]? = some r) : Lend own (.rptr e sz i o) (.ip (r.drop o))
  | fn {f : Fn} {cs : List AV} {ds : List D} (h : LendL own cs ds) : Lend own (.fn f cs) (.fn f ds)
  | osld {e sz len : Nat} {rs : List (List D)} (h : get own e = some (.deep sz rs [])) (hn : len = rs.length) (hz : ∀ r ∈ rs, r.all noNil = true) : Lend own (.osl e sz 0 len) (.sl sz rs)
  | oslb {e len : Nat} {cells : List AV} {ds : List D} {rs' : List (List D)} (h : get own e = some (.box cells)) (hl : LendL own cells ds) (hn : len = ds.length) (hr : rs' = ds.map fun d => [d]) : Lend own (.osl e 1 0 len) (.sl 1 rs')
inductive LendL (own : List (Nat × OB)) : List AV → List D → Prop
  | nil : LendL own [] []
  | cons {x : AV} {xs : List AV} {y : D} {ys : List D} (h : Lend own x y) (hs : LendL own xs ys) : LendL own (x :: xs) (y :: ys)
end
mutual
/-- What is handed to a call, and how the callee sees it. -/
inductive LA (own : List (Nat × OB)) : AV → AV → Prop
  | d (x : D) : LA own (.d x) (.d x)
  | lend {x : AV} {y : D} (h : Lend own x y) : LA own x (.d y)
  | agg {xs ys : List AV} (h : LAL own xs ys) : LA own (.agg xs) (.agg ys)
  | fn {f : Fn} {xs ys : List AV} (h : LAL own xs ys) : LA own (.fn f xs) (.fn f ys)
  | raw (v : Value) : LA own (.raw v) (.raw v)
  | zs (sz : Nat) : LA own (.zs sz) (.zs sz)
inductive LAL (own : List (Nat × OB)) : List AV → List AV → Prop
  | nil : LAL own [] []
  | cons {x y : AV} {xs ys : List AV} (h : LA own x y) (hs : LAL own xs ys) : LAL own (x :: xs) (y :: ys)
end
theorem DRows_ones {w : World} {ok : Nat → Prop} : ∀ {ds : List D} {b o : Nat}, DRow w ok ds b o → DRows w ok 1 (ds.map fun d => [d]) b o
  | [], _, _, _ => by rw [List.map_nil, DRows]; trivial
  | d :: ds, b, o, h => by
    rw [DRow] at h
    rw [List.map_cons, DRows]
    refine ⟨rfl, ?_, DRows_ones h.2⟩
    rw [DRow]
    exact ⟨h.1, by rw [DRow]; trivial⟩
theorem osl_lend {X : Nat → Prop} {β : Names} {w : World} {ok' : Nat → Prop} {own : List (Nat × OB)} (H : HR X β own w) (hok1 : ∀ b, okf X β b → ok' b) (hok2 : ∀ e b, (get own e).isSome = true → β e = some b → ok' b)
    {e sz s len : Nat} {rs : List (List D)} {v : Value} (h : get own e = some (.rows sz rs)) (hl : s + len ≤ rs.length) (hr : AR X β w (.osl e sz s len) v) : DR w ok' (.sl sz ((rs.drop s).take len)) v := by
  rw [AR] at hr
  obtain ⟨a, cap, h1, h2, h3⟩ := hr
  have hlen : ((rs.drop s).take len).length = len := by simp; omega
  rw [DR, hlen]
  refine ⟨a, cap, h1, h2, ?_⟩
  by_cases hz : len = 0
  · left; exact List.eq_nil_of_length_eq_zero (by rw [hlen]; exact hz)
  · right
    rcases h3 with h3 | ⟨b, c, ty, fr, h4, h5, h6, h7⟩
    · omega
    have hob := H.own e _ h
    rw [h4] at hob
    refine ⟨b, s * sz, h5, hok2 e b (by rw [h]; rfl) h4, H.lt e b h4, ?_⟩
    have key : ∀ (n : Nat) (q : List (List D)) (i : Nat), q.length = n → (∀ j r, q[j]? = some r → rs[i + j]? = some r) → DRows w ok' sz q b (i * sz) := by
      intro n
      induction n with
      | zero => intro q i hq _; rw [List.eq_nil_of_length_eq_zero hq, DRows]; trivial
      | succ n ih =>
        intro q i hq hj
        match q, hq with
        | r :: q, hq =>
          rw [DRows]
          obtain ⟨h8, vs, h9, h10⟩ := rows_vals hob (hj 0 r rfl)
          refine ⟨h8, ?_, ?_⟩
          · have hrow : ∀ (q : List D) (vs : List Value) (o : Nat), DL w (okf X β) q vs → w.rangeAt b o vs → DRow w ok' q b o := by
              intro q
              induction q with
              | nil => intro vs o _ _; rw [DRow]; trivial
              | cons x q ih =>
                intro vs o hd hra
                rw [DL] at hd
                obtain ⟨v, r, rfl, h11, h12⟩ := hd
                rw [DRow]
                refine ⟨⟨v, by simpa using hra 0 v rfl, DR.mono ⟨Nat.le_refl _, fun _ _ _ => rfl, fun b hb _ => hok1 b hb⟩ x v h11⟩, ih r (o + 1) h12 (fun j u hu => ?_)⟩
                have := hra (j + 1) u (by simpa using hu)
                rwa [show o + (j + 1) = o + 1 + j from by omega] at this
            have := hrow r vs _ h9 h10
            simpa using this
          · have := ih q (i + 1) (by simpa using hq) (fun j r' hr' => by
              have := hj (j + 1) r' (by simpa using hr')
              rwa [show i + (j + 1) = i + 1 + j from by omega] at this)
            rwa [Nat.succ_mul] at this
    exact key _ _ s hlen (fun j r hj => by
      rw [List.getElem?_take] at hj
      split at hj
      · rwa [List.getElem?_drop] at hj
      · cases hj)
section lend
variable {X : Nat → Prop} {β : Names} {w : World} {ok' : Nat → Prop} {own : List (Nat × OB)}
theorem flat_any {w : World} {ok' : Nat → Prop} {x : D} {v : Value} (h : DR w (fun _ => False) x v) : DR w ok' x v := DR.mono ⟨Nat.le_refl _, fun _ _ _ => rfl, fun _ h _ => h.elim⟩ x v h
theorem rows_of {P : D → Value → Prop} {b : Nat} {c : Array Value} {ty : TypeId} {fr : Nat × Nat} (hc : w.heap[b]? = some (.cells c ty fr)) (hP : ∀ x v, P x v → DR w ok' x v) {sz : Nat} : ∀ {rs : List (List D)} {o : Nat},
    (∀ i r, rs[i]? = some r → r.length = sz ∧ ∀ j x, r[j]? = some x → ∃ v, c[o + (i * sz + j)]? = some v ∧ P x v) → DRows w ok' sz rs b o
  | [], _, _ => by rw [DRows]; trivial
  | r :: rs, o, h => by
    rw [DRows]
    obtain ⟨h1, h2⟩ := h 0 r rfl
    refine ⟨h1, ?_, rows_of hc hP (fun i q hq => ?_)⟩
    · have key : ∀ (q : List D) (o : Nat), (∀ j x, q[j]? = some x → ∃ v, c[o + j]? = some v ∧ P x v) → DRow w ok' q b o := by
        intro q
        induction q with
        | nil => intro o _; rw [DRow]; trivial
        | cons x q ih =>
          intro o hq
          rw [DRow]
          obtain ⟨v, h3, h4⟩ := hq 0 x rfl
          refine ⟨⟨v, ?_, hP x v h4⟩, ih (o + 1) (fun j y hy => ?_)⟩
          · unfold World.cell?; simp only [hc]; simpa using h3
          · have := hq (j + 1) y (by simpa using hy)
            rwa [show o + (j + 1) = o + 1 + j from by omega] at this
      refine key r o (fun j x hj => ?_)
      have := h2 j x hj
      rwa [Nat.zero_mul, Nat.zero_add] at this
    · obtain ⟨h3, h4⟩ := h (i + 1) q (by simpa using hq)
      refine ⟨h3, fun j x hj => ?_⟩
      have := h4 j x hj
      rwa [show o + ((i + 1) * sz + j) = o + sz + (i * sz + j) from by rw [Nat.succ_mul]; omega] at this
theorem cellD_dr {β : Names} {e : Nat} (hh : ∀ j b, β.hd e j = some b → ok' b) (hl : ∀ j b, β.hd e j = some b → b < w.heap.size) {x : D} (hx : noNil x = true) {v : Value} (h : CellD β w e none x v) : DR w ok' x v := by
  cases x with
  | sl m xs =>
    obtain ⟨a, cap, h1, h2, h3⟩ := h
    rw [DR]
    refine ⟨a, cap, h1, h2, ?_⟩
    rcases h3 with h3 | ⟨j, b, c, ty, fr, q1, q2, q3, q4, q5, q6⟩
    · left; exact List.eq_nil_of_length_eq_zero (by omega)
    right
    exact ⟨b, 0, q2, hh j b q1, hl j b q1, rows_of (P := DR w (fun _ => False)) q3 (fun x v h => flat_any h) (fun i r hi => by
      obtain ⟨p1, p2⟩ := q6 i r hi
      exact ⟨p1, fun j x hj => by have := p2 j x hj; rwa [Nat.zero_add]⟩)⟩
  | int _ _ => exact flat_any h
  | bool _ => exact flat_any h
  | str _ => exact flat_any h
  | ip _ => exact flat_any h
  | fn _ _ => exact flat_any h
  | nilp => cases hx
theorem deep_lend (H : HR X β own w) (hok2 : ∀ e b, (get own e).isSome = true → β e = some b → ok' b) (hok3 : ∀ e j b, (get own e).isSome = true → β.hd e j = some b → ok' b) {e sz len : Nat} {rs : List (List D)} (h1 : get own e = some (.deep sz rs [])) (h2 : len = rs.length) (hz : ∀ r ∈ rs, r.all noNil = true)
    {v : Value} (h : AR X β w (.osl e sz 0 len) v) : DR w ok' (.sl sz rs) v := by
  subst h2
  rw [AR] at h; rw [DR]
  obtain ⟨a, cap, g1, g2, g3⟩ := h
  refine ⟨a, cap, g1, g2, ?_⟩
  rcases g3 with g3 | ⟨b, c, ty, fr, g4, g5, g6, g7⟩
  · left; exact List.eq_nil_of_length_eq_zero (by omega)
  · right
    have hob := H.own e _ h1
    rw [g4] at hob
    obtain ⟨c', ty', fr', p1, p2, p3, p4, p5⟩ := hob
    refine ⟨b, 0 * sz, g5, hok2 e b (by rw [h1]; rfl) g4, H.lt e b g4, rows_of (P := fun x v => noNil x = true ∧ CellD β w e none x v) p1 (fun x v h => cellD_dr (fun j b hb => hok3 e j b (by rw [h1]; rfl) hb) (H.hlt e) h.1 h.2) (fun i r hi => ?_)⟩
    obtain ⟨q1, q2⟩ := p4 i r hi
    exact ⟨q1, fun j x hj => by
      obtain ⟨v, q3, q4⟩ := q2 j x hj
      exact ⟨v, by rw [Nat.zero_mul, Nat.zero_add]; exact q3, List.all_eq_true.1 (hz r (List.mem_of_getElem? hi)) x (List.mem_of_getElem? hj), q4⟩⟩
mutual
theorem Lend.dr (H : HR X β own w) (hok1 : ∀ b, okf X β b → ok' b) (hok2 : ∀ e b, (get own e).isSome = true → β e = some b → ok' b) (hok3 : ∀ e j b, (get own e).isSome = true → β.hd e j = some b → ok' b) : ∀ {x : AV} {y : D}, Lend own x y → ∀ {v : Value}, AR X β w x v → DR w ok' y v
  | _, _, .d x, v, h => by rw [AR] at h; exact DR.mono ⟨Nat.le_refl _, fun _ _ _ => rfl, fun b hb _ => hok1 b hb⟩ x v h
  | _, _, .zs sz, v, h => by
    rw [AR] at h; rw [DR]
    obtain ⟨a, rfl⟩ := h
    exact ⟨a, 0, rfl, Nat.le_refl _, .inl rfl⟩
  | _, _, .osl h1 h2 h3, v, h => by subst h3; exact osl_lend H hok1 hok2 h1 h2 h
  | _, _, .ptr (e := e) (o := o) (cells := cells) h1 h2, v, h => by
    rw [AR] at h; rw [DR]
    obtain ⟨b, hb, rfl⟩ := h
    refine ⟨b, o, rfl, .inr ⟨hok2 e b (by rw [h1]; rfl) hb, ?_⟩⟩
    have hob := H.own e _ h1
    rw [hb] at hob
    obtain ⟨vs, h3, h4⟩ := box_vals hob
    exact LendL.row H hok1 hok2 hok3 h2 (by simpa using AL_drop o h3) (by simpa using rangeAt_drop h4 o)
  | _, _, .rptr (e := e) (sz := sz) (i := i) (o := o) (r := r) h1 h2, v, h => by
    rw [AR] at h; rw [DR]
    obtain ⟨b, hb, rfl⟩ := h
    refine ⟨b, i * sz + o, rfl, .inr ⟨hok2 e b (by rw [h1]; rfl) hb, ?_⟩⟩
    have hob := H.own e _ h1
    rw [hb] at hob
    obtain ⟨h3, vs, h4, h5⟩ := rows_vals hob h2
    have hrow : ∀ (q : List D) (vs : List Value) (o : Nat), DL w (okf X β) q vs → w.rangeAt b o vs → DRow w ok' q b o := by
      intro q
      induction q with
      | nil => intro vs o _ _; rw [DRow]; trivial
      | cons x q ih =>
        intro vs o hd hra
        rw [DL] at hd
        obtain ⟨v, r, rfl, h11, h12⟩ := hd
        rw [DRow]
        refine ⟨⟨v, by simpa using hra 0 v rfl, DR.mono ⟨Nat.le_refl _, fun _ _ _ => rfl, fun b hb _ => hok1 b hb⟩ x v h11⟩, ih r (o + 1) h12 (fun j u hu => ?_)⟩
        have := hra (j + 1) u (by simpa using hu)
        rwa [show o + (j + 1) = o + 1 + j from by omega] at this
    exact DRow_drop o (hrow r vs _ h4 h5)
  | _, _, .fn h1, v, h => by
    rw [AR] at h; rw [DR]
    obtain ⟨vs, rfl, h2⟩ := h
    exact ⟨vs, rfl, LendL.dl H hok1 hok2 hok3 h1 h2⟩
  | _, _, .osld (sz := sz) h1 h2 hz, v, h => deep_lend H hok2 hok3 h1 h2 hz h
  | _, _, .oslb (e := e) (len := len) (cells := cells) (ds := ds) h1 h2 h3 h4, v, h => by
    subst h4
    rw [AR] at h
    obtain ⟨a, cap, g1, g2, g3⟩ := h
    rw [DR]
    simp only [List.length_map]
    refine ⟨a, cap, by rw [← h3]; exact g1, by omega, ?_⟩
    by_cases hz : len = 0
    · left
      have : ds = [] := List.eq_nil_of_length_eq_zero (by omega)
      rw [this]; rfl
    · right
      rcases g3 with g3 | ⟨b, c, ty, fr, g4, g5, g6, g7⟩
      · omega
      refine ⟨b, 0 * 1, g5, hok2 e b (by rw [h1]; rfl) g4, H.lt e b g4, ?_⟩
      have hob := H.own e _ h1
      rw [g4] at hob
      obtain ⟨vs, g8, g9⟩ := box_vals hob
      exact DRows_ones (LendL.row H hok1 hok2 hok3 h2 g8 g9)
theorem LendL.row (H : HR X β own w) (hok1 : ∀ b, okf X β b → ok' b) (hok2 : ∀ e b, (get own e).isSome = true → β e = some b → ok' b) (hok3 : ∀ e j b, (get own e).isSome = true → β.hd e j = some b → ok' b) : ∀ {xs : List AV} {ys : List D}, LendL own xs ys → ∀ {vs : List Value} {b o : Nat}, AL X β w xs vs → w.rangeAt b o vs → DRow w ok' ys b o
  | _, _, .nil, vs, b, o, _, _ => by rw [DRow]; trivial
  | _, _, .cons h1 h2, vs, b, o, hA, hra => by
    rw [AL] at hA
    obtain ⟨v, r, rfl, h3, h4⟩ := hA
    rw [DRow]
    refine ⟨⟨v, by simpa using hra 0 v rfl, Lend.dr H hok1 hok2 hok3 h1 h3⟩, LendL.row H hok1 hok2 hok3 h2 h4 (fun j u hu => ?_)⟩
    have := hra (j + 1) u (by simpa using hu)
    rwa [show o + (j + 1) = o + 1 + j from by omega] at this
theorem LendL.dl (H : HR X β own w) (hok1 : ∀ b, okf X β b → ok' b) (hok2 : ∀ e b, (get own e).isSome = true → β e = some b → ok' b) (hok3 : ∀ e j b, (get own e).isSome = true → β.hd e j = some b → ok' b) : ∀ {xs : List AV} {ys : List D}, LendL own xs ys → ∀ {vs : List Value}, AL X β w xs vs → DL w ok' ys vs
  | _, _, .nil, vs, hA => by rw [AL] at hA; rw [DL]; exact hA
  | _, _, .cons h1 h2, vs, hA => by
    rw [AL] at hA; rw [DL]
    obtain ⟨v, r, rfl, h3, h4⟩ := hA
    exact ⟨v, r, rfl, Lend.dr H hok1 hok2 hok3 h1 h3, LendL.dl H hok1 hok2 hok3 h2 h4⟩
end
end lend
section lend2
variable {X X' : Nat → Prop} {β β' : Names} {w : World} {own : List (Nat × OB)}
mutual
theorem LA.ar (H : HR X β own w) (hok1 : ∀ b, okf X β b → okf X' β' b) (hok2 : ∀ e b, (get own e).isSome = true → β e = some b → okf X' β' b) (hok3 : ∀ e j b, (get own e).isSome = true → β.hd e j = some b → okf X' β' b) : ∀ {x y : AV}, LA own x y → ∀ {v : Value}, AR X β w x v → AR X' β' w y v
  | _, _, .d x, v, h => by rw [AR] at h ⊢; exact DR.mono ⟨Nat.le_refl _, fun _ _ _ => rfl, fun b hb _ => hok1 b hb⟩ x v h
  | _, _, .lend h1, v, h => by rw [AR]; exact Lend.dr H hok1 hok2 hok3 h1 h
  | _, _, .agg h1, v, h => by
    rw [AR] at h ⊢
    obtain ⟨vs, rfl, h2⟩ := h
    exact ⟨vs, rfl, LAL.al H hok1 hok2 hok3 h1 h2⟩
  | _, _, .fn h1, v, h => by
    rw [AR] at h ⊢
    obtain ⟨vs, rfl, h2⟩ := h
    exact ⟨vs, rfl, LAL.al H hok1 hok2 hok3 h1 h2⟩
  | _, _, .raw u, v, h => by rw [AR] at h ⊢; exact h
  | _, _, .zs sz, v, h => by rw [AR] at h ⊢; exact h
theorem LAL.al (H : HR X β own w) (hok1 : ∀ b, okf X β b → okf X' β' b) (hok2 : ∀ e b, (get own e).isSome = true → β e = some b → okf X' β' b) (hok3 : ∀ e j b, (get own e).isSome = true → β.hd e j = some b → okf X' β' b) : ∀ {xs ys : List AV}, LAL own xs ys → ∀ {vs : List Value}, AL X β w xs vs → AL X' β' w ys vs
  | _, _, .nil, vs, hA => by rw [AL] at hA ⊢; exact hA
  | _, _, .cons h1 h2, vs, hA => by
    rw [AL] at hA ⊢
    obtain ⟨v, r, rfl, h3, h4⟩ := hA
    exact ⟨v, r, rfl, LA.ar H hok1 hok2 hok3 h1 h3, LAL.al H hok1 hok2 hok3 h2 h4⟩
end
end lend2
mutual
theorem AR_noref {X X' : Nat → Prop} {β : Names} {w : World} (hok : ∀ b, okf X β b → okf X' noN b) : ∀ (x : AV) (v : Value), refsIn [] x = true → AR X β w x v → AR X' noN w x v
  | .ptr e o, v, hr, _ => by simp [refsIn, memb] at hr
  | .rptr e sz i o, v, hr, _ => by simp [refsIn, memb] at hr
  | .osl e sz s len, v, hr, _ => by simp [refsIn, memb] at hr
  | .oslc e sz s len cap, v, hr, _ => by simp [refsIn, memb] at hr
  | .agg cs, v, hr, h => by
    rw [refsIn] at hr; rw [AR] at h ⊢
    obtain ⟨vs, h1, h2⟩ := h
    exact ⟨vs, h1, AL_noref hok cs _ hr h2⟩
  | .tup cs, v, hr, h => by
    rw [refsIn] at hr; rw [AR] at h ⊢
    obtain ⟨vs, h1, h2⟩ := h
    exact ⟨vs, h1, AL_noref hok cs _ hr h2⟩
  | .fn f cs, v, hr, h => by
    rw [refsIn] at hr; rw [AR] at h ⊢
    obtain ⟨vs, h1, h2⟩ := h
    exact ⟨vs, h1, AL_noref hok cs _ hr h2⟩
  | .bfn f cs, v, hr, h => by
    rw [refsIn] at hr; rw [AR] at h ⊢
    obtain ⟨vs, h1, h2⟩ := h
    exact ⟨vs, h1, AL_noref hok cs _ hr h2⟩
  | .d x, v, _, h => by rw [AR] at h ⊢; exact DR.mono ⟨Nat.le_refl _, fun _ _ _ => rfl, fun b hb _ => hok b hb⟩ x v h
  | .zs sz, v, _, h => by rw [AR] at h ⊢; exact h
  | .raw u, v, _, h => by rw [AR] at h ⊢; exact h
  | .dead, v, _, _ => by rw [AR]; trivial
theorem AL_noref {X X' : Nat → Prop} {β : Names} {w : World} (hok : ∀ b, okf X β b → okf X' noN b) : ∀ (xs : List AV) (vs : List Value), refsInL [] xs = true → AL X β w xs vs → AL X' noN w xs vs
  | [], vs, _, h => by rw [AL] at h ⊢; exact h
  | x :: xs, vs, hr, h => by
    rw [refsInL, Bool.and_eq_true] at hr
    rw [AL] at h ⊢
    obtain ⟨v, r, h1, h2, h3⟩ := h
    exact ⟨v, r, h1, AR_noref hok x v hr.1 h2, AL_noref hok xs r hr.2 h3⟩
end
section
variable {P : Program} {mv : Nat → Bool} {f : Nat} {post : AV → List (Nat × OB) → Prop} {C : Cx} {sl : List (Nat × AV)} {own : List (Nat × OB)} {vs args0 : List AV} {K : AV → St → Prop}
/-- The arguments hold nothing own. -/
theorem vc_pure (hcon : Con P mv f vs [] post) (hP : C.P = P) (hr : refsInL [] vs = true) (hres : ∀ r h', post r h' → ∃ τ N, ResOK sl own false τ N r h' ∧ K (renA τ r) ⟨sl, renOs τ h' ++ own⟩) : VCall C ⟨sl, own⟩ f vs K :=
  vcall_gen hcon hP false (fun _ _ _ us _ A => AL_noref (fun _ ⟨h1, h2⟩ => ⟨fun h => (noN_XH h).elim (fun h => h1 (.inl h)) (fun ⟨_, h⟩ => h.elim (fun ⟨e, he⟩ => h2 e he) (fun h => h1 (.inr h))), fun e he => by cases he⟩) vs us hr A) hres
/-- Own blocks are lent. -/
theorem vc_lend (hcon : Con P mv f args0 [] post) (hP : C.P = P) (hl : LAL own vs args0) (hres : ∀ r h', post r h' → ∃ τ N, ResOK sl own true τ N r h' ∧ K (renA τ r) ⟨sl, renOs τ h' ++ own⟩) : VCall C ⟨sl, own⟩ f vs K :=
  vcall_gen hcon hP true (fun _ _ _ _ S A => LAL.al S.hr (fun _ ⟨h1, _⟩ => ⟨fun h => (noN_XH h).elim (fun h => h1 (.inl h)) (fun ⟨h, _⟩ => by cases h), fun e he => by cases he⟩)
    (fun e b _ hb => ⟨fun h => (noN_XH h).elim (fun h => S.hr.notX e b hb (.inl h)) (fun ⟨h, _⟩ => by cases h), fun e he => by cases he⟩)
    (fun e j b _ hb => ⟨fun h => (noN_XH h).elim (fun h => S.hr.hX e j b hb h) (fun ⟨h, _⟩ => by cases h), fun e he => by cases he⟩) hl A) hres
/-- .. and what comes back holds nothing own. -/
theorem vc_pure0 {r : AV} (hcon : Con P mv f vs [] (fun r' h' => r' = r ∧ h' = [])) (hP : C.P = P) (hr : refsInL [] vs = true) (hr' : refsIn [] r = true) (hK : K r ⟨sl, own⟩) : VCall C ⟨sl, own⟩ f vs K :=
  vc_pure hcon hP hr (fun r' h' ⟨h1, h2⟩ => ⟨id, [], ⟨by rw [h1]; exact hr', rfl, by rw [h2]; rfl, by rw [h2]; rfl, rfl, fun h => by cases h⟩, by rw [h1, h2, renA_id]; exact hK⟩)
theorem vc_lend0 {r : AV} (hcon : Con P mv f args0 [] (fun r' h' => r' = r ∧ h' = [])) (hP : C.P = P) (hl : LAL own vs args0) (hr' : refsIn [] r = true) (hs : noIsl r = true) (hK : K r ⟨sl, own⟩) : VCall C ⟨sl, own⟩ f vs K :=
  vc_lend hcon hP hl (fun r' h' ⟨h1, h2⟩ => ⟨id, [], ⟨by rw [h1]; exact hr', rfl, by rw [h2]; rfl, by rw [h2]; rfl, rfl, fun _ => ⟨by rw [h1]; exact hs, fun e ob h => by rw [h2] at h; simp [get] at h⟩⟩, by rw [h1, h2, renA_id]; exact hK⟩)
end
end Go.AM

namespace Go.AM
theorem filterMap_range' {α : Type} : ∀ (l : List α) (k : Nat) (p : Nat → Option α), (∀ j, j < l.length → p (k + j) = l[j]?) → (List.range' k l.length).filterMap p = l
  | [], k, p, _ => rfl
  | x :: l, k, p, h => by
    rw [List.length_cons, List.range'_succ, List.filterMap_cons]
    have h0 := h 0 (by simp)
    simp only [Nat.add_zero, List.getElem?_cons_zero] at h0
    rw [h0]
    simp only
    rw [filterMap_range' l (k + 1) p (fun j hj => by
      have := h (j + 1) (by simp; omega)
      rw [show k + (j + 1) = k + 1 + j from by omega] at this
      simpa using this)]
/-- Running in whatever order, every operation quiet. -/
def WQ (C : Cx) (ops : Array Oper) (L : Act → World → Prop) (l : List Nat) (a : Act) (w : World) : Prop :=
  wpQuiet C.P ops (Ext w) (fun a' => ∀ w', Ext w w' → L a' w') (l.filterMap (fun i => ops[i]?)) a
theorem Rn.quiet (C : Cx) (ops : Array Oper) (L : Act → World → Prop) : Rn C true ops (WQ C ops L) where
  val := fun i rest a w o v ho hw hr h => by
    unfold WQ at *
    rw [List.filterMap_cons, ho]
    simp only [wpQuiet, hw, if_true]
    exact ⟨v, fun w' hw' => by unfold Oper.quietAt; rw [hr w' hw']; exact ⟨rfl, rfl⟩, h⟩
  skip := fun i rest a w o ho hw h => by
    unfold WQ at *
    rw [List.filterMap_cons, ho]
    simp only [wpQuiet, hw]
    exact h
  eff := fun h => by cases h
  callq := fun _ i rest a w o f args v ho hw hr h => by
    unfold WQ at *
    rw [List.filterMap_cons, ho]
    simp only [wpQuiet, hw, if_true]
    exact ⟨v, fun w' hw' => by unfold Oper.quietAt; rw [(hr w' hw').1]; exact ⟨rfl, (hr w' hw').2⟩, h⟩
theorem cx_draw {C : Cx} {st : St} {Kn : Kont} {Ke : List (Nat × Kont)} {Kr : Kont} {l : List XI} (h : AXI C true [] l st Kn) : AX C (.draw l) st Kn Ke Kr := by
  intro c hf a w S
  simp only [fitsC] at hf
  split at hf
  · rename_i id ops
    simp only [Bool.and_eq_true] at hf
    obtain ⟨⟨h1, h2⟩, h3⟩ := hf
    refine wp_region_quiet (C := Ext w) h2 h3 (Ext.drew w) ?_
    have := h ops _ (Rn.quiet C ops (fun a w => ∃ st', Kn st' ∧ Sat C st' a w)) 0 0 ops.size (sizeIs_eq h1) [] a w S (fun g hg => by cases hg)
      (fun st' a' w' hw hK S' _ => by
        have := hw rfl
        subst this
        exact fun w'' hw'' => ⟨st', hK, S'.ext hw''⟩)
    unfold WQ at this
    rw [List.append_nil, Nat.sub_zero] at this
    have e : (List.range' 0 ops.size).filterMap (fun i => ops[i]?) = ops.toList := by
      have := filterMap_range' ops.toList 0 (fun i => ops[i]?) (fun j _ => by simp)
      simpa using this
    rw [e] at this
    exact this
  · cases hf
/-- The one value of what holds no memory. -/
def scVal : AV → Option Value
  | .d (.int k n) => some (.int k n)
  | .d (.bool b) => some (.bool b)
  | .d (.str l) => some (.string ⟨l.toArray⟩)
  | .d .nilp => some (.pointer none)
  | .tup [.d (.int k n), .d (.int k' n')] => some (.tuple #[.int k n, .int k' n'])
  | .tup [.d (.int k n), .d (.bool b)] => some (.tuple #[.int k n, .bool b])
  | .tup [.d (.bool b), .d (.int k n)] => some (.tuple #[.bool b, .int k n])
  | .tup [.d (.str l), .d (.bool b)] => some (.tuple #[.string ⟨l.toArray⟩, .bool b])
  | .tup [.d (.str l), .d (.int k n)] => some (.tuple #[.string ⟨l.toArray⟩, .int k n])
  | _ => none
theorem scVal_iff {r : AV} {v : Value} (h : scVal r = some v) (X : Nat → Prop) (β : Names) (w : World) (u : Value) : AR X β w r u ↔ u = v := by
  unfold scVal at h
  split at h <;> cases h
  · rw [AR, DR]
  · rw [AR, DR]
  · rw [AR, DR]
  · rw [AR, DR]
  all_goals
    simp only [AR, AL, DR]
    constructor
    · rintro ⟨vs, rfl, v1, r1, h1, rfl, v2, r2, rfl, rfl, rfl⟩
      obtain ⟨l⟩ := vs
      simp only at h1; rw [h1]
    · rintro rfl
      exact ⟨_, rfl, _, _, rfl, rfl, _, _, rfl, rfl, rfl⟩
section
variable {C : Cx} {gs : List Gd} {K : St → Prop}
theorem ax_callq {sl : List (Nat × AV)} {own : List (Nat × OB)} {d : Nat} {f : Nat} {args : List XA} {its : List XI} {vs args0 : List AV} {r : AV} {P : Program} {mv : Nat → Bool} {v : Value}
    (ha : evL sl args = some vs) (hcon : Con P mv f args0 [] (fun r' h' => r' = r ∧ h' = [])) (hP : C.P = P) (hl : LAL own vs args0) (hv : scVal r = some v)
    (h : AXI C true gs its ⟨(d, r) :: sl, own⟩ K) : AXI C true gs (.call (some d) f args :: its) ⟨sl, own⟩ K := by
  intro ops W R lo i k hf rest a w S G H
  subst hP
  obtain ⟨m, h1, h2, h3, h4⟩ := fitIs_cons hf
  obtain ⟨o, as, ts, ho, hop, hg, hd, hfr, hb, hx, rfl⟩ := call_fit h1
  rw [range_split (by omega) h4, range_one, List.append_assoc, List.singleton_append]
  obtain ⟨β, S⟩ := S
  have e1 : as.map a.eval = (as.toList.map a.eval).toArray := by rw [← Array.toList_map]
  refine R.callq rfl i _ a w o f (as.map a.eval) v ho (wanted_of hg G) ?_ ?_
  · intro w' hw'
    have S' := S.ext hw'
    have hA := AL_of_fits S' hx ha
    refine ⟨by simp [execOp, hop, resolve, Act.eval, Deferred.ofValue, invoke, callFunc_run hb], ?_⟩
    rw [e1]
    have hA' := LAL.al (X' := C.X) (β' := noN) S'.hr (fun b hb => ⟨fun h => hb.1 (.inl (noN_XH h)), fun e he => by cases he⟩) (fun e b _ hb => ⟨fun h => S'.hr.notX e b hb (.inl (noN_XH h)), fun e he => by cases he⟩) (fun e j b _ hb => ⟨fun h => S'.hr.hX e j b hb (noN_XH h), fun e he => by cases he⟩) hl hA
    refine (hcon C.X noN w' _ (fun b hb => by have := S'.xlt b hb; have := S'.fr.size; omega) (fun e b h => by cases h) (fun e j b h => by cases h) ⟨fun e e' b h => (by cases h), fun e b h => (by cases h), fun e b h => (by cases h), fun e j b h => (by cases h), fun e j e' j' b h => (by cases h), fun e j b h => (by cases h), fun e ob h => (by simp [get] at h)⟩ hA' (S'.gok.sub (fun b h => .inl h) (fun b h => (noN_own h).elim))).mono ?_
    rintro e w'' ⟨u, r', h', β', he, ⟨rfl, rfl⟩, hr, _, F, _⟩
    rw [(scVal_iff hv _ _ _ _).1 hr] at he
    exact ⟨he, hw'.trans ⟨F.os, F.tape, F.output, F.size, fun b hb => F.same b hb noN_own⟩⟩
  · rw [hd]
    exact h ops W R lo (i + 1) k h2 rest _ w ⟨β, S.put (dstFree_lt hfr d rfl) ((scVal_iff hv _ _ _ _).2 rfl)⟩ (G.put hfr) H
end
end Go.AM

namespace Go.AM
/-- 'xs' written over from 'o' on, in a normal form. -/
def setF {α : Type} : List α → Nat → List α → Option (List α)
  | l, 0, [] => some l
  | [], _, _ => none
  | _ :: l, 0, x :: xs => match setF l 0 xs with
    | some r => some (x :: r)
    | none => none
  | y :: l, o + 1, xs => match setF l o xs with
    | some r => some (y :: r)
    | none => none
theorem setL_cons_succ {α : Type} : ∀ (xs l : List α) (y : α) (o : Nat), setL (y :: l) (o + 1) xs = y :: setL l o xs
  | [], _, _, _ => rfl
  | x :: xs, l, y, o => by rw [setL, setL, List.set_cons_succ, setL_cons_succ xs]
theorem setF_eq {α : Type} : ∀ {l : List α} {o : Nat} {xs r : List α}, setF l o xs = some r → r = setL l o xs ∧ o + xs.length ≤ l.length
  | l, 0, [], r, h => by
    have : setF l 0 ([] : List α) = some l := by cases l <;> rfl
    rw [this] at h; cases h; exact ⟨rfl, by simp⟩
  | [], 0, x :: xs, r, h => by simp [setF] at h
  | [], o + 1, xs, r, h => by simp [setF] at h
  | y :: l, 0, x :: xs, r, h => by
    rw [setF] at h
    split at h
    · rename_i q hq
      cases h
      obtain ⟨h1, h2⟩ := setF_eq hq
      refine ⟨?_, by simp only [List.length_cons]; omega⟩
      rw [setL, List.set_cons_zero, Nat.zero_add, show (1 : Nat) = 0 + 1 from rfl, setL_cons_succ, h1]
    · cases h
  | y :: l, o + 1, xs, r, h => by
    have e : setF (y :: l) (o + 1) xs = match setF l o xs with | some r => some (y :: r) | none => none := by cases xs <;> rfl
    rw [e] at h
    split at h
    · rename_i q hq
      cases h
      obtain ⟨h1, h2⟩ := setF_eq hq
      exact ⟨by rw [setL_cons_succ, h1], by simp only [List.length_cons]; omega⟩
    · cases h
theorem foldl_set (off : Nat) : ∀ (l : List Value) (k : Nat) (cells : Array Value),
    ((l.zipIdx k).foldl (fun (cs : Array Value) (x : Value × Nat) => cs.setIfInBounds (off + x.2) x.1) cells).toList = setL cells.toList (off + k) l
  | [], k, cells => rfl
  | v :: l, k, cells => by
    rw [List.zipIdx_cons, List.foldl_cons, foldl_set off l (k + 1), setL]
    simp [Nat.add_assoc]
/-- The struct's cells, filled. -/
def bldK (sl : List (Nat × AV)) : List AV → List (Nat × Nat × XA) → Option (List AV)
  | cells, [] => some cells
  | cells, (off, n, x) :: r => match evA sl x with
    | some v => match cellsA v with
      | some cs => bif Nat.beq cs.length n then match setF cells off cs with
          | some q => bldK sl q r
          | none => none
        else none
      | none => none
    | none => none
theorem fill_run {C : Cx} {st : St} {a : Act} {w : World} {β : Names} (S : SatB C st a w β) {place : Nat → Option (Nat × TypeId)} {pl : Nat → Option (Nat × Nat)}
    (hpl : ∀ i off t, place i = some (off, t) → ∃ n, pl i = some (off, n) ∧ szIs C.P t n = true) :
    ∀ (ps : List (Nat × Operand)) (parts : List (Nat × Nat × XA)) (cells r : List AV) (vs : Array Value), fitParts ps parts place C.P = true → bldK st.sl cells parts = some r → AL C.X β w cells vs.toList →
      ∃ us : Array Value, Instr.fill pl vs (ps.map fun x => (x.1, a.eval x.2)) = some us ∧ AL C.X β w r us.toList
  | [], [], cells, r, vs, _, h, hA => by
    simp only [bldK, Option.some.injEq] at h; subst h
    exact ⟨vs, rfl, hA⟩
  | (i, o) :: ps, (off, n, x) :: parts, cells, r, vs, hf, h, hA => by
    simp only [fitParts, Bool.and_eq_true] at hf
    obtain ⟨⟨h1, h2⟩, h3⟩ := hf
    simp only [bldK] at h
    split at h
    · rename_i v hv
      split at h
      · rename_i cs hcs
        obtain ⟨h4, h5⟩ := bif_match h
        have h4 := Nat.eq_of_beq_eq_true h4
        split at h5
        · rename_i q hq
          obtain ⟨h6, h7⟩ := setF_eq hq
          split at h2
          · rename_i off' t hp
            simp only [Bool.and_eq_true] at h2
            have h8 := Nat.eq_of_beq_eq_true h2.1
            subst h8
            obtain ⟨n', h9, h10⟩ := hpl i off t hp
            have hn : n' = n := by
              have e1 := h2.2
              unfold szIs at e1 h10
              split at e1
              · rename_i ti hti
                rw [hti] at h10
                rw [← Nat.eq_of_beq_eq_true e1, ← Nat.eq_of_beq_eq_true h10]
              · cases e1
            subst hn
            have h11 := cellsA_AL hcs (AR_of_fitA S h1 hv)
            have h12 := AL_len h11
            have h13 := AL_len hA
            have hsz : (a.eval o).cells.size = n' := by rw [← h4, ← h12]; simp
            obtain ⟨us, h14, h15⟩ := fill_run S hpl ps parts q r (((a.eval o).cells.zipIdx).foldl (fun cs (c, j) => cs.setIfInBounds (off + j) c) vs) h3 h5 (by
              have e : ((a.eval o).cells.zipIdx.foldl (fun (cs : Array Value) (x : Value × Nat) => cs.setIfInBounds (off + x.2) x.1) vs).toList = setL vs.toList off (a.eval o).cells.toList := by
                have := foldl_set off (a.eval o).cells.toList 0 vs
                rw [Nat.add_zero] at this
                rw [← this, ← Array.foldl_toList, Array.toList_zipIdx]
              show AL C.X β w q ((a.eval o).cells.zipIdx.foldl (fun (cs : Array Value) (x : Value × Nat) => cs.setIfInBounds (off + x.2) x.1) vs).toList
              rw [e, h6]
              exact AL_setL off hA h11)
            refine ⟨us, ?_, h15⟩
            rw [List.map_cons, Instr.fill, h9]
            have hvs : vs.size = cells.length := by rw [← h13]; simp
            simp only [hsz, hvs]
            rw [if_neg (by simp; omega)]
            exact h14
          · cases h2
        · cases h5
      · cases h
    · cases h
  | [], _ :: _, _, _, _, hf, _, _ => by simp [fitParts] at hf
  | _ :: _, [], _, _, _, hf, _, _ => by simp [fitParts] at hf
section
variable {C : Cx} {st : St}
theorem q_build {zs : List K} {parts : List (Nat × Nat × XA)} {r : List AV} (h : bldK st.sl (zs.map K.av) parts = some r) : QStep C st (.build zs parts) (.agg r) := by
  intro op hf a w β S
  simp only [fits] at hf
  split at hf
  · rename_i t ps hop
    simp only [Bool.and_eq_true] at hf
    obtain ⟨h1, h2⟩ := hf
    obtain ⟨i, v, hi, hv, hz, hs⟩ := zeroIs_some h1
    have hzv : ∀ w', (zeroValue t).run C.P w' = .ok v w' := fun w' => by simp [zeroValue, typeInfo, hi, hv]
    have e : (ps.map fun x : Nat × Operand => match x with | (i, x) => (i, a.eval x)) = ps.map fun x => (x.1, a.eval x.2) := rfl
    split at h2
    · rename_i fs hu
      simp only [Bool.and_eq_true] at h2
      obtain ⟨h2, h3⟩ := h2
      have hpl : ∀ i off t', fieldOf C.P t i = some (off, t') → ∃ n, (fs.map fun f => (f.offset, ((C.P.info? f.type).map (·.size)).getD 0))[i]? = some (off, n) ∧ szIs C.P t' n = true := by
        intro i off t' hfo
        obtain ⟨fs', x, q1, q2, q3, q4⟩ := fieldOf_some hfo
        rw [hu] at q1; cases q1
        subst q3 q4
        have hx : (C.P.info? x.type).isSome = true := by
          have := List.all_eq_true.1 h2 x (by simpa using Array.mem_of_getElem? q2)
          exact this
        obtain ⟨ti, hti⟩ := Option.isSome_iff_exists.1 hx
        refine ⟨ti.size, by simp [q2, hti], by unfold szIs; rw [hti]; simp⟩
      obtain ⟨us, h4, h5⟩ := fill_run S hpl ps.toList parts _ r v.cells h3 h (fitZ_AL hz)
      refine ⟨.agg us, by rw [AR]; exact ⟨us, rfl, h5⟩, fun w' _ => ?_⟩
      have hmap : ∀ (l : List Field), (∀ f ∈ l, (C.P.info? f.type).isSome = true) → (l.mapM (fun f => (do pure (f.offset, ← sizeOf f.type) : Sem (Nat × Nat)))).run C.P w' = .ok (l.map fun f => (f.offset, ((C.P.info? f.type).map (·.size)).getD 0)) w' := by
        intro l
        induction l with
        | nil => intro _; simp
        | cons f l ih =>
          intro hl
          obtain ⟨ti, hti⟩ := Option.isSome_iff_exists.1 (hl f List.mem_cons_self)
          have hsz : (sizeOf f.type).run C.P w' = .ok ti.size w' := by simp [sizeOf, typeInfo, hti]
          simp only [List.mapM_cons, Sem.run_bind, hsz, Result.andThen_ok, Sem.run_pure, ih (fun g hg => hl g (List.mem_cons_of_mem _ hg)), List.map_cons, hti, Option.map_some, Option.getD_some]
      have hmapA : (fs.mapM (fun f => (do pure (f.offset, ← sizeOf f.type) : Sem (Nat × Nat)))).run C.P w' = .ok (fs.map fun f => (f.offset, ((C.P.info? f.type).map (·.size)).getD 0)) w' := by
        rw [← Array.toArray_toList (xs := fs), List.mapM_toArray, map_eq_pure_bind, Sem.run_bind, hmap fs.toList (fun f hf => List.all_eq_true.1 h2 f hf)]
        simp only [Result.andThen_ok, Sem.run_pure, ← Array.toList_map, Array.toArray_toList]
      have h4' : Instr.fill (fun i => (fs.map fun f => (f.offset, ((C.P.info? f.type).map (·.size)).getD 0))[i]?) v.cells (ps.map fun x => (x.1, a.eval x.2)).toList = some us := by
        rw [Array.toList_map]; exact h4
      simp only [execOp, hop, Instr.build, Sem.run_bind, hzv, Result.andThen_ok, run_underlying hu, hmapA]
      rw [e, h4']
      rfl
    · rename_i m el hu
      split at h2
      · rename_i ti hti
        have hpl : ∀ i off t', (fun k => some (k * ti.size, el)) i = some (off, t') → ∃ n, (fun i => some (i * ti.size, ti.size)) i = some (off, n) ∧ szIs C.P t' n = true := by
          intro i off t' hfo
          simp only [Option.some.injEq, Prod.mk.injEq] at hfo
          obtain ⟨rfl, rfl⟩ := hfo
          exact ⟨ti.size, rfl, by unfold szIs; rw [hti]; simp⟩
        obtain ⟨us, h4, h5⟩ := fill_run S hpl ps.toList parts _ r v.cells h2 h (fitZ_AL hz)
        refine ⟨.agg us, by rw [AR]; exact ⟨us, rfl, h5⟩, fun w' _ => ?_⟩
        have hsz : (sizeOf el).run C.P w' = .ok ti.size w' := by simp [sizeOf, typeInfo, hti]
        have h4' : Instr.fill (fun i => some (i * ti.size, ti.size)) v.cells (ps.map fun x => (x.1, a.eval x.2)).toList = some us := by
          rw [Array.toList_map]; exact h4
        simp only [execOp, hop, Instr.build, Sem.run_bind, hzv, Result.andThen_ok, run_underlying hu, hsz]
        rw [e, h4']
        rfl
      · cases h2
    · cases h2
  · cases hf
end
def evRows (sl : List (Nat × AV)) (sz : Nat) : List XA → Option (List (List D))
  | [] => some []
  | x :: xs => match evA sl x with
    | some v => match cellsA v with
      | some cs => match toDs cs with
        | some ds => bif Nat.beq ds.length sz then match evRows sl sz xs with
            | some r => some (ds :: r)
            | none => none
          else none
        | none => none
      | none => none
    | none => none
theorem RowsR_split {X : Nat → Prop} {β : Names} {w : World} {sz : Nat} {r1 r2 : List (List D)} {c1 c2 : List Value} (h1 : RowsR X β w sz r1 c1.toArray) (hl : c1.length = r1.length * sz) (h2 : RowsR X β w sz r2 c2.toArray) :
    RowsR X β w sz (r1 ++ r2) (c1 ++ c2).toArray := by
  intro i r hi
  by_cases h : i < r1.length
  · rw [List.getElem?_append_left h] at hi
    obtain ⟨h3, h4⟩ := h1 i r hi
    refine ⟨h3, fun j x hj => ?_⟩
    obtain ⟨v, h5, h6⟩ := h4 j x hj
    refine ⟨v, ?_, h6⟩
    simp only [List.getElem?_toArray] at h5 ⊢
    rw [List.getElem?_append_left]
    · exact h5
    · rcases Nat.lt_or_ge (i * sz + j) c1.length with hq | hq
      · exact hq
      · rw [List.getElem?_eq_none hq] at h5; cases h5
  · rw [List.getElem?_append_right (by omega)] at hi
    obtain ⟨h3, h4⟩ := h2 (i - r1.length) r hi
    refine ⟨h3, fun j x hj => ?_⟩
    obtain ⟨v, h5, h6⟩ := h4 j x hj
    refine ⟨v, ?_, h6⟩
    simp only [List.getElem?_toArray] at h5 ⊢
    have hge : r1.length * sz ≤ i * sz := Nat.mul_le_mul_right _ (by omega)
    rw [List.getElem?_append_right (by omega), hl, show i * sz + j - r1.length * sz = (i - r1.length) * sz + j from by rw [Nat.sub_mul]; omega]
    exact h5
theorem RowsR_one {X : Nat → Prop} {β : Names} {w : World} {sz : Nat} {ds : List D} {vs : List Value} (h : DL w (okf X β) ds vs) (hl : ds.length = sz) : RowsR X β w sz [ds] vs.toArray := by
  intro i r hi
  cases i with
  | succ i => simp at hi
  | zero =>
    simp at hi; subst hi
    refine ⟨hl, fun j x hj => ?_⟩
    simp only [Nat.zero_mul, Nat.zero_add, List.getElem?_toArray]
    have key : ∀ {ds : List D} {vs : List Value}, DL w (okf X β) ds vs → ∀ (j : Nat) x, ds[j]? = some x → ∃ v, vs[j]? = some v ∧ DR w (okf X β) x v := by
      intro ds
      induction ds with
      | nil => intro vs h j x hx; simp at hx
      | cons y ys ih =>
        intro vs h j x hx
        rw [DL] at h
        obtain ⟨v, r, rfl, h2, h3⟩ := h
        cases j with
        | zero => simp at hx; subst hx; exact ⟨v, by simp, h2⟩
        | succ j => simp at hx; simpa using ih h3 j x hx
    exact key h j x hj
theorem setL_mid {α : Type} : ∀ (p m s xs : List α), m.length = xs.length → setL (p ++ m ++ s) p.length xs = p ++ xs ++ s := by
  intro p
  induction p with
  | nil =>
    intro m s xs
    induction xs generalizing m s with
    | nil => intro h; have : m = [] := by simpa using h
             subst this; rfl
    | cons x xs ih =>
      intro h
      match m, h with
      | y :: m, h =>
        simp only [List.nil_append, List.length_nil, List.cons_append]
        rw [setL, List.set_cons_zero, Nat.zero_add, show (1 : Nat) = 0 + 1 from rfl, setL_cons_succ]
        have := ih m s (by simpa using h)
        simp only [List.nil_append, List.length_nil] at this
        rw [this]
  | cons y p ih =>
    intro m s xs h
    simp only [List.cons_append, List.length_cons]
    rw [setL_cons_succ, ih m s xs h]
theorem bslice_fill {C : Cx} {st : St} {a : Act} {w : World} {β : Names} (S : SatB C st a w β) {sz : Nat} : ∀ (ps : List (Nat × Operand)) (xs : List XA) (k : Nat) (rows : List (List D)) (pre suf : List Value), fitSeq k ps xs = true → evRows st.sl sz xs = some rows →
    pre.length = k * sz → suf.length = xs.length * sz →
    ∃ us : List Value, Instr.fill (fun i => some (i * sz, sz)) (pre ++ suf).toArray (ps.map fun x => (x.1, a.eval x.2)) = some (pre ++ us).toArray ∧ us.length = xs.length * sz ∧ RowsR C.X β w sz rows us.toArray ∧ rows.length = xs.length
  | [], [], k, rows, pre, suf, _, h, hp, hs => by
    simp only [evRows, Option.some.injEq] at h; subst h
    have : suf = [] := by apply List.eq_nil_of_length_eq_zero; rw [hs]; simp
    subst this
    exact ⟨[], rfl, by simp, fun i r hi => by simp at hi, rfl⟩
  | (i, o) :: ps, x :: xs, k, rows, pre, suf, hf, h, hp, hs => by
    simp only [fitSeq, Bool.and_eq_true] at hf
    obtain ⟨⟨h1, h2⟩, h3⟩ := hf
    have h1 := Nat.eq_of_beq_eq_true h1
    subst h1
    simp only [evRows] at h
    split at h
    · rename_i v hv
      split at h
      · rename_i cs hcs
        split at h
        · rename_i ds hds
          obtain ⟨h4, h5⟩ := bif_match h
          have h4 := Nat.eq_of_beq_eq_true h4
          split at h5
          · rename_i r hr
            cases h5
            have h6 := cellsA_AL hcs (AR_of_fitA S h2 hv)
            have h7 := toDs_DL hds h6
            have h8 : (a.eval o).cells.toList.length = sz := by rw [AL_len h6, ← toDs_len hds, h4]
            have hs' : suf.length = sz + xs.length * sz := by rw [hs, List.length_cons, Nat.succ_mul]; omega
            have hsplit : suf = suf.take sz ++ suf.drop sz := (List.take_append_drop sz suf).symm
            obtain ⟨us, h9, h10, h11, h12⟩ := bslice_fill S ps xs (i + 1) r (pre ++ (a.eval o).cells.toList) (suf.drop sz) h3 hr (by simp only [List.length_append, hp, h8, Nat.succ_mul]) (by simp; omega)
            refine ⟨(a.eval o).cells.toList ++ us, ?_, by simp only [List.length_append, h8, h10, List.length_cons, Nat.succ_mul]; omega, ?_, by simp [h12]⟩
            · rw [List.map_cons, Instr.fill]
              simp only
              have hsz : (a.eval o).cells.size = sz := by rw [← h8]; simp
              rw [if_neg (by simp [hsz]; omega)]
              have e : (pre ++ suf).toArray = (pre ++ suf.take sz ++ suf.drop sz).toArray := by rw [List.append_assoc, List.take_append_drop]
              have e2 : ((a.eval o).cells.zipIdx.foldl (fun (cs : Array Value) (x : Value × Nat) => cs.setIfInBounds (i * sz + x.2) x.1) (pre ++ suf).toArray) = (pre ++ (a.eval o).cells.toList ++ suf.drop sz).toArray := by
                apply Array.ext'
                rw [← Array.foldl_toList, Array.toList_zipIdx]
                have := foldl_set (i * sz) (a.eval o).cells.toList 0 (pre ++ suf).toArray
                rw [Nat.add_zero] at this
                rw [this]
                simp only
                rw [show pre ++ suf = pre ++ suf.take sz ++ suf.drop sz from by rw [List.append_assoc, List.take_append_drop], ← hp, setL_mid _ _ _ _ (by simp [h8]; omega)]
              have e3 : ((a.eval o).cells.zipIdx.foldl (fun (cs : Array Value) (c, j) => cs.setIfInBounds (i * sz + j) c) (pre ++ suf).toArray) = (pre ++ (a.eval o).cells.toList ++ suf.drop sz).toArray := e2
              rw [e3]
              rw [h9, List.append_assoc]
            · exact RowsR_split (RowsR_one h7 h4) (by simp [h8]) h11
          · cases h5
        · cases h
      · cases h
    · cases h
  | [], _ :: _, _, _, _, _, hf, _, _, _ => by simp [fitSeq] at hf
  | _ :: _, [], _, _, _, _, hf, _, _, _ => by simp [fitSeq] at hf
theorem thaws_none (sz n : Nat) : thawS sz (0, 0) n := ⟨fun o _ h => by simp at h, fun _ h => by simp at h⟩
theorem rows_new {X : Nat → Prop} {β : Names} {w : World} {d : Nat} {sz : Nat} {rs : List (List D)} (c : Array Value) (ty : TypeId) (fr : Nat × Nat) (hfr : thawS sz fr c.size) (h : RowsR X β w sz rs c) (hl : rs.length * sz ≤ c.size) :
    OBR X (setN β d (some w.heap.size)) { w with heap := w.heap.push (.cells c ty fr) } (.rows sz rs) (some w.heap.size) d :=
  ⟨c, ty, fr, heap_push_new, hfr, hl, h.mono (Tr.alloc (X := X) (β := β) (w := w) (.cells c ty fr) d).keep⟩
theorem e_bslice {C : Cx} {sl : List (Nat × AV)} {own : List (Nat × OB)} {d sz : Nat} {xs : List XA} {rows : List (List D)} (hr : evRows sl sz xs = some rows) (hd' : d < 1000) (h1 : nrS d sl = true) (h2 : nrOs d own = true) :
    EStep C ⟨sl, own⟩ (some d) (.bslice sz xs) ⟨(d, .osl d sz 0 rows.length) :: sl, (d, .rows sz rows) :: own⟩ := by
  intro o ho hd hf a w β S
  have hd := hd _ rfl
  simp only [fits] at hf
  split at hf
  · rename_i t len ps hop
    simp only [Bool.and_eq_true, decide_eq_true_eq] at hf
    obtain ⟨⟨⟨⟨h3, h4⟩, h5⟩, h6⟩, h7⟩ := hf
    have h4 := Nat.eq_of_beq_eq_true h4
    subst h4
    have h7 := Nat.le_of_ble_eq_true h7
    split at h3
    · rename_i e he
      simp only [Bool.and_eq_true] at h3
      obtain ⟨h8, h9⟩ := h3
      split at h9
      · rename_i ti hti
        obtain ⟨z, hz⟩ := Option.isSome_iff_exists.1 h9
        have hzv : (zeroValue e).run C.P w = .ok z w := by simp [zeroValue, typeInfo, hti, hz]
        have main : ∀ zc : Array Value, ∃ us : List Value, Instr.fill (fun i => some (i * sz, sz)) ((Array.range (xs.length * sz)).map (zc[· % zc.size]!)) (ps.map fun x => (x.1, a.eval x.2)).toList = some us.toArray ∧ us.length = xs.length * sz ∧ RowsR C.X β w sz rows us.toArray ∧ rows.length = xs.length := by
          intro zc
          have := bslice_fill S (sz := sz) ps.toList xs 0 rows [] ((Array.range (xs.length * sz)).map (zc[· % zc.size]!)).toList h5 hr (by simp) (by simp)
          simp only [List.nil_append, Array.toArray_toList] at this
          rw [Array.toList_map]
          exact this
        have fin : ∀ us : List Value, us.length = xs.length * sz → RowsR C.X β w sz rows us.toArray → rows.length = xs.length →
            SatB C ⟨(d, .osl d sz 0 rows.length) :: sl, (d, .rows sz rows) :: own⟩ (a.put (some d) (.slice (some ⟨w.heap.size, 0, none⟩) xs.length xs.length)) { w with heap := w.heap.push (.cells us.toArray e) } (setN β d (some w.heap.size)) := by
          intro us q1 q2 q3
          refine (S.alloc' hd' h1 h2 (rows_new us.toArray e (0, 0) (thaws_none _ _) q2 (by simp [q1, q3]))).put hd ?_
          rw [AR]
          refine ⟨some ⟨w.heap.size, 0, none⟩, xs.length, by rw [q3], by omega, ?_⟩
          exact .inr ⟨w.heap.size, us.toArray, e, (0, 0), by simp [setN_nm], by simp, heap_push_new, by simp [q1]⟩
        have hz1 : (sizeOf e).run C.P w = .ok sz w := szIs_some h8 w
        have e1 : (ps.map fun x : Nat × Operand => match x with | (i, x) => (i, a.eval x)) = ps.map fun x => (x.1, a.eval x.2) := rfl
        by_cases hlen : xs.length * sz = 0
        · obtain ⟨us, q1, q2, q3, q4⟩ := main #[]
          refine ⟨_, _, _, ?_, .inr ⟨_, rfl, fin us q2 q3 q4⟩⟩
          simp only [execOp, hop, Instr.buildSlice, Sem.run_bind, run_underlying (sliceOf_some he), Result.andThen_ok, hz1]
          rw [if_neg (by omega)]
          simp only [hlen, if_true, Sem.run_pure, Sem.run_bind, Result.andThen_ok]
          rw [e1]
          rw [hlen] at q1
          rw [q1]
          simp [newRow, newObj, Sem.run]
        · obtain ⟨us, q1, q2, q3, q4⟩ := main z.cells
          refine ⟨_, _, _, ?_, .inr ⟨_, rfl, fin us q2 q3 q4⟩⟩
          simp only [execOp, hop, Instr.buildSlice, Sem.run_bind, run_underlying (sliceOf_some he), Result.andThen_ok, hz1]
          rw [if_neg (by omega)]
          simp only [hlen, if_false, Sem.run_pure, Sem.run_bind, Result.andThen_ok, hzv]
          rw [e1, q1]
          simp [newRow, newObj, Sem.run]
      · cases h9
    · cases h3
  · cases hf
end Go.AM
