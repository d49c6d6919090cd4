/- Plain laws about strings, marks, types of the program and what its functions compute; readings of arguments (part 0). -/
import Derived.Test.YtgfabnojbjnepaaC
set_option linter.unusedVariables false
set_option linter.unusedSimpArgs false
/- Plain data of the program, as Lean sees it: strings, rows of strings, marks. -/
namespace Go.AM

abbrev Str := List UInt8
def strRow (s : Str) : List D := [.str s]
def strs (xs : List Str) : D := .sl 1 (xs.map strRow)

/-- What 'sz..' counts. -/
def szF (left : Int) (n : Nat) : Int := if (n : Int) ≤ left then left - n else -1
def sumL : List Str → Nat
  | [] => 0
  | s :: r => s.length + sumL r
def szStrs (xs : List Str) : Nat := xs.length + sumL xs
theorem sumL_append : ∀ (a b : List Str), sumL (a ++ b) = sumL a + sumL b
  | [], b => by simp [sumL]
  | x :: a, b => by rw [List.cons_append, sumL, sumL, sumL_append a b]; omega
theorem take_succ {α : Type} {xs : List α} {k : Nat} (h : k < xs.length) : xs.take (k + 1) = xs.take k ++ [xs[k]] := by
  rw [List.take_add_one, List.getElem?_eq_getElem h]; rfl
theorem sumL_take {xs : List Str} {k : Nat} (h : k < xs.length) : sumL (xs.take (k + 1)) = sumL (xs.take k) + xs[k].length := by
  rw [take_succ h, sumL_append]; simp [sumL]
theorem sumL_le (xs : List Str) (k : Nat) : sumL (xs.take k) ≤ sumL xs := by
  conv => rhs; rw [← List.take_append_drop k xs]
  rw [sumL_append]; omega
theorem sumL_mem {xs : List Str} {s : Str} (h : s ∈ xs) : s.length ≤ sumL xs := by
  induction xs with
  | nil => cases h
  | cons x r ih =>
    rw [sumL]
    rcases List.mem_cons.1 h with rfl | h
    · omega
    · have := ih h; omega

/-- Lengths that Go has. -/
def wfStrs (xs : List Str) : Prop := xs.length ≤ 9223372036854775807 ∧ ∀ s ∈ xs, s.length ≤ 9223372036854775807

/-! Marks. -/
def digs : Nat → Nat → Str → Str
  | 0, _, out => out
  | f + 1, n, out => if n = 0 then out else digs f (n / 10) (UInt8.ofNat (48 + n % 10) :: out)
def mkT (k : Nat) : Str := if k = 0 then [109, 48] else 109 :: digs 20 k []
def marks (k n : Nat) : List Str := (List.range n).map fun i => mkT (k + i)
theorem marks_length (k n : Nat) : (marks k n).length = n := by simp [marks]
theorem marks_get {k n i : Nat} (h : i < n) : (marks k n)[i]? = some (mkT (k + i)) := by simp [marks, h]

theorem decide_iff {p q : Prop} [Decidable p] [Decidable q] (h : p ↔ q) : decide p = decide q := by
  by_cases hp : p
  · rw [decide_eq_true hp, decide_eq_true (h.1 hp)]
  · rw [decide_eq_false hp, decide_eq_false (fun hq => hp (h.2 hq))]
theorem eq_of_take {α : Type} {xs ys : List α} (hl : xs.length = ys.length) (h : xs.take xs.length = ys.take xs.length) : xs = ys := by
  rw [List.take_length] at h
  rw [h, hl, List.take_length]
theorem take_step {α : Type} {xs ys : List α} {k : Nat} (hx : k < xs.length) (hy : k < ys.length) (h : xs.take k = ys.take k) (he : xs[k] = ys[k]) : xs.take (k + 1) = ys.take (k + 1) := by
  rw [take_succ hx, take_succ hy, h, he]

structure Page where
  lsn : Int
  slots : List Str
def Page.av (p : Page) : AV := .agg [int p.lsn, .d (strs p.slots)]

theorem lend_whole {own : List (Nat × OB)} {e sz len : Nat} {rs : List (List D)} (h : get own e = some (.rows sz rs)) (hl : len = rs.length) : Lend own (.osl e sz 0 len) (.sl sz rs) :=
  .osl h (by omega) (by rw [List.drop_zero, hl, List.take_length])
end Go.AM

/- Plain laws: pages. -/
namespace Go.AM

def inR (n lo hi : Int) : Bool := decide (lo ≤ n) && decide (n ≤ hi)
def Page.zero : Page := ⟨0, []⟩
/-- A page whose slots are own. -/
abbrev pageO (e : Nat) (p : Page) : AV := .agg [int p.lsn, .osl e 1 0 p.slots.length]
abbrev pageH (e : Nat) (p : Page) : List (Nat × OB) := [(e, .rows 1 (p.slots.map strRow))]

def pageOK (p : Page) : Bool := inR p.lsn 0 1000 && decide (p.slots.length = 4) && !p.slots.any (fun s => decide (30 < s.length))
def pageSet (p : Page) (slot : Int) (data : Str) (lsn : Int) : Page × Int :=
  if (65536 : Int) < (data.length : Int) then (.zero, 2) else
  if pageOK p = false then (.zero, 1) else
  if (!inR slot 0 3 || decide ((30 : Int) < (data.length : Int)) || !inR lsn 0 1000) = true then (.zero, 4) else
  (⟨lsn, p.slots.set slot.toNat data⟩, 0)
def idxOf {α : Type} (p : α → Bool) : List α → Nat → Int
  | [], _ => -1
  | x :: xs, k => if p x then k else idxOf p xs (k + 1)
def pageInsert (p : Page) (data : Str) : Page × Int × Int :=
  if (65536 : Int) < (data.length : Int) then (.zero, 0, 2) else
  if pageOK p = false then (.zero, 0, 1) else
  if inR data.length 1 30 = false then (.zero, 0, 4) else
  let k := idxOf (fun s => decide (s = [])) p.slots 0
  if k < 0 then (p, 0, 7) else (⟨p.lsn, p.slots.set k.toNat data⟩, k, 0)

/-- Not found so far. -/
theorem idxOf_step {α : Type} {p : α → Bool} : ∀ {xs : List α} {k j : Nat}, (∀ i, i < k → ∀ x, xs[i]? = some x → p x = false) → idxOf p xs j = idxOf p (xs.drop k) (j + k)
  | xs, 0, j, _ => by simp
  | [], k + 1, j, _ => by simp [idxOf]
  | x :: xs, k + 1, j, h => by
    rw [idxOf, h 0 (by omega) x rfl, List.drop_succ_cons, if_neg (by simp)]
    rw [idxOf_step (k := k) (j := j + 1) (fun i hi y hy => h (i + 1) (by omega) y (by simpa using hy))]
    congr 1; omega
theorem idxOf_hit {α : Type} {p : α → Bool} {xs : List α} {k : Nat} (hk : k < xs.length) (h : ∀ i, i < k → ∀ x, xs[i]? = some x → p x = false) (hp : p xs[k] = true) : idxOf p xs 0 = k := by
  rw [idxOf_step h, List.drop_eq_getElem_cons hk, idxOf, if_pos hp]; simp
theorem idxOf_none {α : Type} {p : α → Bool} {xs : List α} (h : ∀ i, i < xs.length → ∀ x, xs[i]? = some x → p x = false) : idxOf p xs 0 = -1 := by
  rw [idxOf_step h, List.drop_length, idxOf]
theorem before_step {α : Type} {p : α → Bool} {xs : List α} {k : Nat} (hk : k < xs.length) (h : ∀ i, i < k → ∀ x, xs[i]? = some x → p x = false) (hp : p xs[k] = false) : ∀ i, i < k + 1 → ∀ x, xs[i]? = some x → p x = false := by
  intro i hi x hx
  rcases Nat.lt_or_ge i k with h' | h'
  · exact h i h' x hx
  · have : i = k := by omega
    subst this
    rw [List.getElem?_eq_getElem hk] at hx; cases hx; exact hp
theorem any_idxOf {α : Type} {p : α → Bool} : ∀ {xs : List α} {k : Nat}, decide (0 ≤ idxOf p xs k) = xs.any p
  | [], k => by simp [idxOf]
  | x :: xs, k => by
    rw [idxOf, List.any_cons]
    cases hp : p x with
    | true => simp
    | false => rw [if_neg (by simp), any_idxOf, Bool.false_or]
theorem idxOf_lt {α : Type} {p : α → Bool} : ∀ {xs : List α} {k : Nat}, idxOf p xs k < k + xs.length ∧ -1 ≤ idxOf p xs k
  | [], k => by simp [idxOf]; omega
  | x :: xs, k => by
    rw [idxOf]
    split
    · simp; omega
    · have := idxOf_lt (p := p) (xs := xs) (k := k + 1)
      simp only [List.length_cons]
      omega
theorem any_all {α : Type} {p : α → Bool} {xs : List α} (h : ∀ i, i < xs.length → ∀ x, xs[i]? = some x → p x = false) : xs.any p = false := by
  rw [← any_idxOf (k := 0), idxOf_none h]; rfl
theorem any_hit {α : Type} {p : α → Bool} {xs : List α} {k : Nat} (hk : k < xs.length) (hp : p xs[k] = true) : xs.any p = true :=
  List.any_eq_true.2 ⟨_, List.getElem_mem hk, hp⟩
end Go.AM

/- Plain laws that walks of the generated helpers need. -/
namespace Go.AM
theorem strs_len {xs : List Str} : (xs.map strRow).length = xs.length := List.length_map _
theorem digs0 : ∀ {f : Nat} {o : Str}, digs f 0 o = o
  | 0, o => rfl
  | f + 1, o => by rw [digs, if_pos rfl]
theorem byteConv {n : Nat} (h : n < 256) : AV.d (.int .u8 (wr .u8 (n : Int))) = .d (.int .u8 ((UInt8.ofNat n).toNat : Int)) := by
  have : (UInt8.ofNat n).toNat = n := by simp [Nat.mod_eq_of_lt h]
  rw [this]
  unfold wr; simp [IntKind.wrap, IntKind.bits, IntKind.signed]; omega
theorem fillAt {xs : List Str} {k : Nat} {z : List D} (h : k < xs.length) : ((xs.take k).map strRow ++ List.replicate (xs.length - k) z)[k]? = some z := by
  have hl : ((xs.take k).map strRow).length = k := by simp; omega
  rw [List.getElem?_append_right (by omega), hl, Nat.sub_self, List.getElem?_replicate, if_pos (by omega)]
theorem fillSet {xs : List Str} {k : Nat} {z : List D} (h : k < xs.length) : ((xs.take k).map strRow ++ List.replicate (xs.length - k) z).set k (strRow xs[k]) = (xs.take (k + 1)).map strRow ++ List.replicate (xs.length - (k + 1)) z := by
  have hl : ((xs.take k).map strRow).length = k := by simp; omega
  rw [List.set_append_right _ _ (by omega), hl, Nat.sub_self, show xs.length - k = (xs.length - (k + 1)) + 1 from by omega, List.replicate_succ, List.set_cons_zero, take_succ h, List.map_append, List.append_assoc]
  rfl
theorem markAt {xs : List Str} {k k0 : Nat} (h : k < xs.length) : ((marks k0 k ++ xs.drop k).map strRow)[k]? = some (strRow xs[k]) := by
  rw [List.getElem?_map, List.getElem?_append_right (by rw [marks_length]; exact Nat.le_refl _), marks_length]
  simp [h]
theorem marks_succ (k0 k : Nat) : marks k0 (k + 1) = marks k0 k ++ [mkT (k0 + k)] := by
  unfold marks; rw [List.range_succ, List.map_append]; rfl
theorem markSet {xs : List Str} {k k0 : Nat} (h : k < xs.length) : ((marks k0 k ++ xs.drop k).map strRow).set k (strRow (mkT (k0 + k))) = (marks k0 (k + 1) ++ xs.drop (k + 1)).map strRow := by
  rw [← List.map_set, List.set_append_right _ _ (by rw [marks_length]; exact Nat.le_refl _), marks_length, Nat.sub_self, List.drop_eq_getElem_cons h, List.set_cons_zero, marks_succ, List.append_assoc]
  rfl
theorem marksAt {k0 n k : Nat} (h : k < n) : ((marks k0 n).map strRow)[k]? = some (strRow (mkT (k0 + k))) := by
  rw [List.getElem?_map, marks_get h]; rfl

noncomputable def eqb {α : Type} (a b : α) : Bool := @decide (a = b) (Classical.propDecidable _)
theorem eqb_t {α : Type} {a b : α} (h : a = b) : eqb a b = true := by unfold eqb; simp [h]
theorem eqb_f {α : Type} {a b : α} (h : a ≠ b) : eqb a b = false := by unfold eqb; simp [h]
theorem eqb_iff {α : Type} {a b : α} : eqb a b = true ↔ a = b := by unfold eqb; simp
theorem page_ext {p q : Page} (h1 : p.lsn = q.lsn) (h2 : p.slots = q.slots) : p = q := by cases p; cases q; simp_all
theorem pageOK_f1 {p : Page} (h : (bif false then !inR p.lsn 0 1000 && !decide (((p.slots.map strRow).length : Int) = 4) else !inR p.lsn 0 1000 || !decide (((p.slots.map strRow).length : Int) = 4)) = true) : pageOK p = false := by
  simp only [cond_false, Bool.or_eq_true, strs_len] at h
  unfold pageOK
  rcases h with h | h
  · rw [bT h]; rfl
  · rw [decide_eq_false (by have := nT h; omega)]; simp
theorem pageOK_impl {p : Page} : (bif true then (bif true then inR p.lsn 0 1000 && decide ((p.slots.length : Int) = 4) else inR p.lsn 0 1000 || decide ((p.slots.length : Int) = 4)) && !p.slots.any (fun s => decide ((30 : Int) < (s.length : Int)))
    else (bif true then inR p.lsn 0 1000 && decide ((p.slots.length : Int) = 4) else inR p.lsn 0 1000 || decide ((p.slots.length : Int) = 4)) || !p.slots.any (fun s => decide ((30 : Int) < (s.length : Int)))) = pageOK p := by
  simp only [cond_true, pageOK]
  have e1 : decide ((p.slots.length : Int) = 4) = decide (p.slots.length = 4) := decide_iff (by omega)
  have e2 : (fun s : Str => decide ((30 : Int) < (s.length : Int))) = fun s => decide (30 < s.length) := by funext s; exact decide_iff (by omega)
  rw [e1, e2]

theorem inR_nat {n lo hi : Int} (h : inR n lo hi = true) (h0 : 0 ≤ lo) : ∃ k : Nat, n = k ∧ (k : Int) ≤ hi := by
  unfold inR at h
  rw [Bool.and_eq_true] at h
  have h1 := dT h.1
  have h2 := dT h.2
  exact ⟨n.toNat, by omega, by omega⟩
theorem pageOK_len {p : Page} (h : pageOK p = true) : p.slots.length = 4 := by
  unfold pageOK at h
  simp only [Bool.and_eq_true] at h
  exact dT h.1.2
theorem pageInsert_set {p : Page} {data : Str} (h0 : ¬ (65536 : Int) < (data.length : Int)) (h1 : pageOK p = true) (h2 : inR data.length 1 30 = true) (h3 : ¬ idxOf (fun s => decide (s = [])) p.slots 0 < 0) :
    ∃ k : Nat, idxOf (fun s => decide (s = [])) p.slots 0 = (k : Int) ∧ k < p.slots.length ∧ pageInsert p data = (⟨p.lsn, p.slots.set k data⟩, (k : Int), 0) := by
  have h4 := idxOf_lt (p := fun s : Str => decide (s = [])) (xs := p.slots) (k := 0)
  generalize hg : idxOf (fun s : Str => decide (s = [])) p.slots 0 = g at *
  refine ⟨g.toNat, by omega, by omega, ?_⟩
  unfold pageInsert
  rw [if_neg h0, if_neg (by rw [h1]; simp), if_neg (by rw [h2]; simp), hg]
  simp only [if_neg h3]
  rw [show ((g.toNat : Nat) : Int) = g from by omega]
theorem eqb_rfl {α : Type} (a : α) : eqb a a = true := eqb_t rfl
theorem noisl_rows {e : Nat} {xs : List Str} : ∀ e' ob, get [(e, OB.rows 1 (xs.map strRow))] e' = some ob → noIslO ob := by
  intro e' ob h
  rw [get_cons] at h
  split at h
  · cases h
    intro r hr x hx
    obtain ⟨s, _, rfl⟩ := List.mem_map.1 hr
    rw [strRow, List.mem_singleton] at hx
    subst hx; rfl
  · simp [get] at h
theorem noisl_nil : ∀ e ob, get ([] : List (Nat × OB)) e = some ob → noIslO ob := fun e ob h => by simp [get] at h
theorem pageSet_len {p : Page} {slot lsn : Int} {data : Str} : (pageSet p slot data lsn).1.slots.length ≤ p.slots.length := by
  unfold pageSet
  split
  · exact Nat.zero_le _
  · split
    · exact Nat.zero_le _
    · split
      · exact Nat.zero_le _
      · simp
theorem pageInsert_len {p : Page} {data : Str} : (pageInsert p data).1.slots.length ≤ p.slots.length := by
  unfold pageInsert
  split
  · exact Nat.zero_le _
  · split
    · exact Nat.zero_le _
    · split
      · exact Nat.zero_le _
      · dsimp only
        split
        · exact Nat.le_refl _
        · simp
theorem szF_len {left : Int} {n : Nat} (h : ¬ szF left n < 0) : (n : Int) ≤ left := by
  unfold szF at h
  split at h
  · assumption
  · omega
theorem pageSet_set {p : Page} {slot lsn : Int} {data : Str} (h0 : ¬ (65536 : Int) < (data.length : Int)) (h1 : pageOK p = true) (h2 : (!inR slot 0 3 || decide ((30 : Int) < (data.length : Int)) || !inR lsn 0 1000) = false) :
    pageSet p slot data lsn = (⟨lsn, p.slots.set slot.toNat data⟩, 0) ∧ ∃ k : Nat, slot = k ∧ k < p.slots.length := by
  refine ⟨by unfold pageSet; rw [if_neg h0, if_neg (by rw [h1]; simp), if_neg (by rw [h2]; simp)], ?_⟩
  have h3 : inR slot 0 3 = true := by
    cases h : inR slot 0 3 with
    | true => rfl
    | false => rw [h] at h2; simp at h2
  obtain ⟨k, h4, h5⟩ := inR_nat h3 (by omega)
  exact ⟨k, h4, by rw [pageOK_len h1]; omega⟩
end Go.AM

/- Readings of arguments: integers, strings, rows of strings, pages. -/
namespace Go.AM

section
variable {P : Program} {t e : TypeId} {ds : List D}
theorem hasC_int {k : IntKind} (h : P.underlying t = some (.int k)) (hc : HasC P t ds) : ∃ n, ds = [.int k n] ∧ (Lit.int k n).wf = true := by
  cases hc with
  | int n h' hw => rw [h] at h'; cases h'; exact ⟨n, rfl, hw⟩
  | bool b h' => rw [h] at h'; cases h'
  | str s h' hl => rw [h] at h'; cases h'
  | nilp h' => rw [h] at h'; cases h'
  | ptr h' hr => rw [h] at h'; cases h'
  | slice rows h' hl hr => rw [h] at h'; cases h'
  | struct h' hf => rw [h] at h'; cases h'
theorem hasC_bool (h : P.underlying t = some .bool) (hc : HasC P t ds) : ∃ b, ds = [.bool b] := by
  cases hc with
  | bool b h' => exact ⟨b, rfl⟩
  | int n h' hw => rw [h] at h'; cases h'
  | str s h' hl => rw [h] at h'; cases h'
  | nilp h' => rw [h] at h'; cases h'
  | ptr h' hr => rw [h] at h'; cases h'
  | slice rows h' hl hr => rw [h] at h'; cases h'
  | struct h' hf => rw [h] at h'; cases h'
theorem hasC_str (h : P.underlying t = some .string) (hc : HasC P t ds) : ∃ s : Str, ds = [.str s] ∧ s.length ≤ 9223372036854775807 := by
  cases hc with
  | str s h' hl => exact ⟨s, rfl, hl⟩
  | bool b h' => rw [h] at h'; cases h'
  | int n h' hw => rw [h] at h'; cases h'
  | nilp h' => rw [h] at h'; cases h'
  | ptr h' hr => rw [h] at h'; cases h'
  | slice rows h' hl hr => rw [h] at h'; cases h'
  | struct h' hf => rw [h] at h'; cases h'
theorem hasC_slice (h : P.underlying t = some (.slice e)) (hc : HasC P t ds) : ∃ rows, ds = [.sl (P.cellsOf e) rows] ∧ rows.length ≤ 9223372036854775807 ∧ HasRs P e rows := by
  cases hc with
  | slice rows h' hl hr => rw [h] at h'; cases h'; exact ⟨rows, rfl, hl, hr⟩
  | bool b h' => rw [h] at h'; cases h'
  | int n h' hw => rw [h] at h'; cases h'
  | str s h' hl => rw [h] at h'; cases h'
  | nilp h' => rw [h] at h'; cases h'
  | ptr h' hr => rw [h] at h'; cases h'
  | struct h' hf => rw [h] at h'; cases h'
theorem hasC_ptr (h : P.underlying t = some (.pointer e)) (hc : HasC P t ds) : ds = [.nilp] ∨ ∃ r, ds = [.ip r] ∧ HasC P e r := by
  cases hc with
  | nilp h' => exact .inl rfl
  | ptr h' hr => rw [h] at h'; cases h'; exact .inr ⟨_, rfl, hr⟩
  | slice rows h' hl hr => rw [h] at h'; cases h'
  | bool b h' => rw [h] at h'; cases h'
  | int n h' hw => rw [h] at h'; cases h'
  | str s h' hl => rw [h] at h'; cases h'
  | struct h' hf => rw [h] at h'; cases h'
theorem hasC_struct {fs : Array Field} (h : P.underlying t = some (.struct fs)) (hc : HasC P t ds) : HasFs P fs.toList ds := by
  cases hc with
  | struct h' hf => rw [h] at h'; cases h'; exact hf
  | nilp h' => rw [h] at h'; cases h'
  | ptr h' hr => rw [h] at h'; cases h'
  | slice rows h' hl hr => rw [h] at h'; cases h'
  | bool b h' => rw [h] at h'; cases h'
  | int n h' hw => rw [h] at h'; cases h'
  | str s h' hl => rw [h] at h'; cases h'
theorem hasFs_cons {f : Field} {fs : List Field} (h : HasFs P (f :: fs) ds) : ∃ a b, ds = a ++ b ∧ HasC P f.type a ∧ HasFs P fs b := by
  cases h with
  | cons h1 h2 => exact ⟨_, _, rfl, h1, h2⟩
theorem hasFs_nil (h : HasFs P [] ds) : ds = [] := by cases h; rfl
theorem hasRs_map {α : Type} {f : α → List D} {ok : α → Prop} (hf : ∀ ds, HasC P e ds → ∃ x, ds = f x ∧ ok x) : ∀ {rows : List (List D)}, HasRs P e rows → ∃ xs : List α, rows = xs.map f ∧ ∀ x ∈ xs, ok x
  | [], _ => ⟨[], rfl, fun x hx => by cases hx⟩
  | r :: rs, h => by
    cases h with
    | cons h1 h2 =>
      obtain ⟨x, rfl, h3⟩ := hf r h1
      obtain ⟨xs, rfl, h4⟩ := hasRs_map hf h2
      exact ⟨x :: xs, rfl, fun y hy => by
        rcases List.mem_cons.1 hy with rfl | hy
        · exact h3
        · exact h4 y hy⟩
theorem has_strs (h : P.underlying t = some (.slice e)) (he : P.underlying e = some .string) (hz : P.cellsOf e = 1) (hc : HasC P t ds) : ∃ xs : List Str, ds = [strs xs] ∧ wfStrs xs := by
  obtain ⟨rows, rfl, h1, h2⟩ := hasC_slice h hc
  obtain ⟨xs, rfl, h3⟩ := hasRs_map (f := strRow) (ok := fun s : Str => s.length ≤ 9223372036854775807) (fun ds hd => by
    obtain ⟨s, rfl, h4⟩ := hasC_str he hd
    exact ⟨s, rfl, h4⟩) h2
  exact ⟨xs, by rw [hz]; rfl, by simpa using h1, h3⟩
theorem has_page {fs : Array Field} {f0 f1 : Field} (h : P.underlying t = some (.struct fs)) (hfs : fs.toList = [f0, f1]) (h0 : P.underlying f0.type = some (.int .i64)) (h1 : P.underlying f1.type = some (.slice e)) (he : P.underlying e = some .string)
    (hz : P.cellsOf e = 1) (hc : HasC P t ds) : ∃ p : Page, ds = [.int .i64 p.lsn, strs p.slots] ∧ wfStrs p.slots := by
  have h2 := hasC_struct h hc
  rw [hfs] at h2
  obtain ⟨a, b, rfl, h3, h4⟩ := hasFs_cons h2
  obtain ⟨a', b', rfl, h5, h6⟩ := hasFs_cons h4
  obtain ⟨n, rfl, _⟩ := hasC_int h0 h3
  obtain ⟨xs, rfl, hw⟩ := has_strs h1 he hz h5
  have := hasFs_nil h6
  subst this
  exact ⟨⟨n, xs⟩, rfl, hw⟩
end
end Go.AM

/- Plain laws for walks: conditions, lengths, sizes, marks. -/
namespace Go.AM
theorem and_T {a b : Bool} (h : (a && b) = true) : a = true ∧ b = true := by simpa using h
theorem and_F {a b : Bool} (h : (a && b) = false) : a = false ∨ b = false := by cases a <;> cases b <;> simp_all
theorem mem1 {p : Nat → Prop} {n : Nat} (h : p n) : ∀ e ∈ [n], p e := fun e he => by
  rw [List.mem_singleton] at he; subst he; exact h
theorem mem2 {p : Nat → Prop} {n m : Nat} (h : p n) (h2 : p m) : ∀ e ∈ [n, m], p e := fun e he => by
  rcases List.mem_cons.1 he with rfl | he
  · exact h
  · exact mem1 h2 e he
theorem mem3 {p : Nat → Prop} {n m k : Nat} (h : p n) (h2 : p m) (h3 : p k) : ∀ e ∈ [n, m, k], p e := fun e he => by
  rcases List.mem_cons.1 he with rfl | he
  · exact h
  · exact mem2 h2 h3 e he
theorem mem4 {p : Nat → Prop} {n m k l : Nat} (h : p n) (h2 : p m) (h3 : p k) (h4 : p l) : ∀ e ∈ [n, m, k, l], p e := fun e he => by
  rcases List.mem_cons.1 he with rfl | he
  · exact h
  · exact mem3 h2 h3 h4 e he
section
variable {C : Cx} {q : Bool} {gs : List Gd} {K : St → Prop}
theorem ax_and {d j c : Nat} {t y : Bool} {grp : List XI} {s : XA} {its : List XI} {sl : List (Nat × AV)} {own : List (Nat × OB)}
    (hc : get sl c = some (.d (.bool t))) (hfr : frS (dstsL grp) sl = true)
    (hgrp : t = true → AXI C q (⟨j, true, c⟩ :: gs) grp ⟨sl, own⟩ (fun st' => evA st'.sl s = some (.d (.bool y)) ∧ St.le ⟨sl, own⟩ st'))
    (h : AXI C q gs its ⟨(d, .d (.bool (t && y))) :: sl, own⟩ K) : AXI C q gs (.andor d true j c grp s :: its) ⟨sl, own⟩ K := ax_andor hc hfr hgrp h
theorem ax_or {d j c : Nat} {t y : Bool} {grp : List XI} {s : XA} {its : List XI} {sl : List (Nat × AV)} {own : List (Nat × OB)}
    (hc : get sl c = some (.d (.bool t))) (hfr : frS (dstsL grp) sl = true)
    (hgrp : t = false → AXI C q (⟨j, false, c⟩ :: gs) grp ⟨sl, own⟩ (fun st' => evA st'.sl s = some (.d (.bool y)) ∧ St.le ⟨sl, own⟩ st'))
    (h : AXI C q gs its ⟨(d, .d (.bool (t || y))) :: sl, own⟩ K) : AXI C q gs (.andor d false j c grp s :: its) ⟨sl, own⟩ K := ax_andor hc hfr hgrp h
end
theorem bneT {a b : Bool} (h : (a != b) = true) : a ≠ b := by simpa using h
theorem bneF {a b : Bool} (h : (a != b) = false) : a = b := by simpa using h
theorem beqT {a b : Bool} (h : (a == b) = true) : a = b := by simpa using h
theorem beqF {a b : Bool} (h : (a == b) = false) : a ≠ b := by simpa using h
theorem or_T {a b : Bool} (h : (a || b) = true) : a = true ∨ b = true := by simpa using h
theorem or_F {a b : Bool} (h : (a || b) = false) : a = false ∧ b = false := by simpa using h
theorem q_lenS_map {C : Cx} {st : St} {x : XA} {sz : Nat} {α : Type} {f : α → List D} {xs : List α} (hx : evA st.sl x = some (.d (.sl sz (xs.map f)))) : QStep C st (.lenS x) (int xs.length) :=
  q_as (q_lenS hx) (by rw [List.length_map])
theorem noisl_map {α : Type} {f : α → List D} {sz : Nat} {xs : List α} (hf : ∀ x, (f x).all scD = true) : noIslO (.rows sz (xs.map f)) := by
  intro r hr x hx
  obtain ⟨y, _, rfl⟩ := List.mem_map.1 hr
  exact List.all_eq_true.1 (hf y) x hx
def noislL : List (Nat × OB) → Prop
  | [] => True
  | (_, ob) :: r => noIslO ob ∧ noislL r
theorem noisl_of : ∀ {h : List (Nat × OB)}, noislL h → ∀ e ob, get h e = some ob → noIslO ob
  | (k, o) :: r, hh, e, ob, h => by
    rw [get_cons] at h
    split at h
    · cases h; exact hh.1
    · exact noisl_of hh.2 e ob h

def intRow (n : Int) : List D := [.int .i64 n]
def boolRow (b : Bool) : List D := [.bool b]
def wfInt (n : Int) : Prop := -9223372036854775808 ≤ n ∧ n ≤ 9223372036854775807
def wfStr (s : Str) : Prop := s.length ≤ 9223372036854775807
def wfL {α : Type} (wf : α → Prop) (xs : List α) : Prop := xs.length ≤ 9223372036854775807 ∧ ∀ x ∈ xs, wf x

/-! Sizes. -/
theorem szF_spec (l : Int) (n : Nat) : ((n : Int) ≤ l ∧ szF l n = l - n) ∨ (l < (n : Int) ∧ szF l n = -1) := by
  unfold szF
  split
  · exact .inl ⟨by assumption, rfl⟩
  · exact .inr ⟨by omega, rfl⟩
def sumBy {α : Type} (f : α → Nat) : List α → Nat
  | [] => 0
  | x :: r => f x + sumBy f r
def szL {α : Type} (f : α → Nat) (xs : List α) : Nat := xs.length + sumBy f xs
theorem sumBy_append {α : Type} {f : α → Nat} : ∀ (a b : List α), sumBy f (a ++ b) = sumBy f a + sumBy f b
  | [], b => by simp [sumBy]
  | x :: a, b => by rw [List.cons_append, sumBy, sumBy, sumBy_append a b]; omega
theorem sumBy_take {α : Type} {f : α → Nat} {xs : List α} {k : Nat} (h : k < xs.length) : sumBy f (xs.take (k + 1)) = sumBy f (xs.take k) + f xs[k] := by
  rw [take_succ h, sumBy_append]; simp [sumBy]
theorem sumBy_le {α : Type} {f : α → Nat} (xs : List α) (k : Nat) : sumBy f (xs.take k) ≤ sumBy f xs := by
  conv => rhs; rw [← List.take_append_drop k xs]
  rw [sumBy_append]; omega
theorem sumBy_zero {α : Type} : ∀ (xs : List α), sumBy (fun _ => 0) xs = 0
  | [] => rfl
  | x :: xs => by rw [sumBy, sumBy_zero xs]
theorem szL_len {α : Type} {f : α → Nat} {xs : List α} : xs.length ≤ szL f xs := by unfold szL; omega

/-! Marks. -/
def markL {α : Type} (mk : Nat → α → α) (c : Nat) : Nat → List α → List α
  | _, [] => []
  | k, x :: xs => mk k x :: markL mk c (k + c) xs
theorem markL_len {α : Type} {mk : Nat → α → α} {c : Nat} : ∀ {k : Nat} {xs : List α}, (markL mk c k xs).length = xs.length
  | _, [] => rfl
  | k, x :: xs => by rw [markL, List.length_cons, markL_len, List.length_cons]
theorem markL_get {α : Type} {mk : Nat → α → α} {c : Nat} : ∀ {k : Nat} {xs : List α} {i : Nat} (h : i < xs.length), (markL mk c k xs)[i]? = some (mk (k + c * i) xs[i])
  | k, x :: xs, 0, h => by simp [markL]
  | k, x :: xs, i + 1, h => by
    rw [markL, List.getElem?_cons_succ, markL_get (by simpa using h)]
    simp only [List.getElem_cons_succ, Option.some.injEq]
    rw [Nat.mul_succ]; congr 1; omega
theorem markL_app {α : Type} {mk : Nat → α → α} {c : Nat} : ∀ {k : Nat} {xs ys : List α}, markL mk c k (xs ++ ys) = markL mk c k xs ++ markL mk c (k + c * xs.length) ys
  | k, [], ys => by simp [markL]
  | k, x :: xs, ys => by
    rw [List.cons_append, markL, markL, markL_app, List.cons_append, List.length_cons]
    congr 2
    rw [Nat.mul_succ]; congr 1; omega
section
variable {α : Type} {row : α → List D} {mk : Nat → α → α} {c k0 k : Nat} {xs : List α}
theorem markL_at (h : k < xs.length) : ((markL mk c k0 (xs.take k) ++ xs.drop k).map row)[k]? = some (row xs[k]) := by
  rw [List.getElem?_map, List.getElem?_append_right (by rw [markL_len]; simp; omega), markL_len]
  simp [List.length_take, Nat.min_eq_left (Nat.le_of_lt h), h]
theorem markL_set (h : k < xs.length) : ((markL mk c k0 (xs.take k) ++ xs.drop k).map row).set k (row (mk (k0 + c * k) xs[k])) = (markL mk c k0 (xs.take (k + 1)) ++ xs.drop (k + 1)).map row := by
  have hl : (markL mk c k0 (xs.take k)).length = k := by rw [markL_len, List.length_take]; omega
  rw [← List.map_set, List.set_append_right _ _ (by rw [hl]; exact Nat.le_refl _), hl, Nat.sub_self, List.drop_eq_getElem_cons h, List.set_cons_zero, take_succ h, markL_app, List.append_assoc, List.length_take, Nat.min_eq_left (Nat.le_of_lt h)]
  rfl
theorem markL_full : markL mk c k0 (xs.take xs.length) ++ xs.drop xs.length = markL mk c k0 xs := by
  rw [List.take_length, List.drop_length, List.append_nil]
theorem setAt {q : List D} {rs : List (List D)} (h : k < rs.length) : (rs.set k q)[k]? = some q := by simp [h]
theorem markL_mlen : ((markL mk c k0 (xs.take k) ++ xs.drop k).map row).length = xs.length := by
  rw [List.length_map, List.length_append, markL_len, List.length_take, List.length_drop]; omega
theorem heldAt (h : k < xs.length) : ((markL mk c k0 xs).map row)[k]? = some (row (mk (k0 + c * k) xs[k])) := by
  rw [List.getElem?_map, markL_get h]; rfl
end
theorem set_set' {α : Type} {l : List α} {k : Nat} {a b : α} {l' : List α} (h : l.set k b = l') : (l.set k a).set k b = l' := by rw [List.set_set]; exact h

/-! Rows that are filled. -/
section
variable {α : Type} {row : α → List D} {xs : List α} {k : Nat} {z : List D}
theorem fillAtL (h : k < xs.length) : ((xs.take k).map row ++ List.replicate (xs.length - k) z)[k]? = some z := by
  have hl : ((xs.take k).map row).length = k := by simp; omega
  rw [List.getElem?_append_right (by omega), hl, Nat.sub_self, List.getElem?_replicate, if_pos (by omega)]
theorem fillSetL (h : k < xs.length) : ((xs.take k).map row ++ List.replicate (xs.length - k) z).set k (row xs[k]) = (xs.take (k + 1)).map row ++ List.replicate (xs.length - (k + 1)) z := by
  have hl : ((xs.take k).map row).length = k := by simp; omega
  rw [List.set_append_right _ _ (by omega), hl, Nat.sub_self, show xs.length - k = (xs.length - (k + 1)) + 1 from by omega, List.replicate_succ, List.set_cons_zero, take_succ h, List.map_append, List.append_assoc]
  rfl
end
theorem wk_zz {C : Cx} {sl : List (Nat × AV)} {own : List (Nat × OB)} (t b : Nat) {a : Nat} (h : get sl t = some (.zs a)) : Wk C ⟨sl, own⟩ ⟨(t, .zs b) :: sl, own⟩ :=
  fun _ _ ⟨β, S⟩ => ⟨β, S.slot h (fun v hv => by rw [AR] at hv ⊢; exact hv)⟩
theorem flat_succ {α : Type} {zs : List (List α)} {k : Nat} (h : k < zs.length) : (zs.take (k + 1)).flatten = (zs.take k).flatten ++ zs[k] := by
  rw [take_succ h, List.flatten_append]; simp
theorem flat_le {α : Type} {zs : List (List α)} (k : Nat) : (zs.take k).flatten.length ≤ zs.flatten.length := by
  have : zs.flatten = (zs.take k).flatten ++ (zs.drop k).flatten := by rw [← List.flatten_append, List.take_append_drop]
  rw [this]; simp
theorem eqb_dec {α : Type} [DecidableEq α] (a b : α) : decide (a = b) = eqb a b := by
  by_cases h : a = b
  · rw [decide_eq_true h, eqb_t h]
  · rw [decide_eq_false h, eqb_f h]
theorem eqbL_step {α : Type} {xs ys : List α} {k : Nat} (hx : k < xs.length) (hy : k < ys.length) (h : xs.take k = ys.take k) (he : eqb xs[k] ys[k] = true) : xs.take (k + 1) = ys.take (k + 1) :=
  take_step hx hy h (eqb_iff.1 he)
theorem eqbL_no {α : Type} {xs ys : List α} {k : Nat} (hx : k < xs.length) (hy : k < ys.length) (he : eqb xs[k] ys[k] = false) : eqb xs ys = false := by
  refine eqb_f fun h => ?_
  subst h
  rw [eqb_rfl] at he; cases he
theorem bif_not (n : Bool) (b : Bool) : (bif n then !b else b) = (bif n then !b else b) := rfl
end Go.AM
namespace Go.AM
mutual
theorem plain_ref : ∀ (x : AV), plain x = true → refsIn [] x = true
  | .d _, _ => rfl
  | .zs _, _ => rfl
  | .raw _, _ => rfl
  | .agg cs, h => by rw [plain] at h; rw [refsIn]; exact plain_refs cs h
  | .fn _ cs, h => by rw [plain] at h; rw [refsIn]; exact plain_refs cs h
  | .ptr _ _, h => by simp [plain] at h
  | .rptr _ _ _ _, h => by simp [plain] at h
  | .osl _ _ _ _, h => by simp [plain] at h
  | .oslc _ _ _ _ _, h => by simp [plain] at h
  | .tup _, h => by simp [plain] at h
  | .dead, h => by simp [plain] at h
theorem plain_refs : ∀ (xs : List AV), plainL xs = true → refsInL [] xs = true
  | [], _ => rfl
  | x :: xs, h => by
    rw [plainL, Bool.and_eq_true] at h
    rw [refsInL, Bool.and_eq_true]
    exact ⟨plain_ref x h.1, plain_refs xs h.2⟩
end
theorem refs_map : ∀ (ds : List D), refsInL [] (ds.map AV.d) = true
  | [] => rfl
  | d :: ds => by rw [List.map_cons, refsInL, refs_map ds]; rfl
theorem refs_cons {x : AV} (h : refsIn [] x = true) (ds : List D) : refsInL [] (x :: ds.map AV.d) = true := by rw [refsInL, h, refs_map]; rfl
/-- A function value among the data is called. -/
theorem ax_callvD {C : Cx} {gs : List Gd} {K : St → Prop} {st : St} {d : Option Nat} {x : XA} {f : Nat} {args : List XA} {its : List XI} {vs : List AV} {ds : List D} (hx : evA st.sl x = some (.d (.fn (.func f) ds))) (hb : hasBody C.P f = true) (ha : evL st.sl args = some vs)
    (h : VCall C st f (vs ++ ds.map AV.d) (fun r st' => AXI C false gs its (putR d r st') K)) : AXI C false gs (.callv d x args :: its) st K := by
  refine ax_callv_gen (hv := fun {β w u} hA => ?_) hx hb ha h
  rw [AR, DR] at hA
  obtain ⟨us, h1, h2⟩ := hA
  exact ⟨us, h1, DL_AL h2⟩

theorem hbnd {len n bytes : Nat} (h1 : len ≤ 2097152) (h2 : n ≤ 2097152) (hb : bytes ≤ 1024) : (2 * (len + n) + 256) * bytes ≤ 2 ^ 48 := by
  have h3 : (2 * (len + n) + 256) * bytes ≤ (2 * (2097152 + 2097152) + 256) * 1024 := Nat.mul_le_mul (by omega) hb
  omega
theorem app1 {α : Type} {row : α → List D} {xs : List α} {y : α} {r : List D} (h : r = row y) : (xs.map row).take xs.length ++ ([r].drop 0).take 1 = (xs ++ [y]).map row := by
  subst h; simp [List.take_of_length_le]
/-! Rows that are struck. -/
section
variable {α : Type} {q : α → Bool}
theorem idxOf_some {p : α → Bool} {xs : List α} (h : idxOf p xs 0 ≠ -1) : ∃ i : Nat, idxOf p xs 0 = (i : Int) ∧ ∃ hi : i < xs.length, p xs[i] = true ∧ (∀ j, j < i → ∀ x, xs[j]? = some x → p x = false) := by
  have key : ∀ (xs : List α) (k : Nat), idxOf p xs k = -1 ∨ ∃ i : Nat, idxOf p xs k = ((k + i : Nat) : Int) ∧ ∃ hi : i < xs.length, p xs[i] = true ∧ (∀ j, j < i → ∀ x, xs[j]? = some x → p x = false) := by
    intro xs
    induction xs with
    | nil => intro k; exact .inl rfl
    | cons x xs ih =>
      intro k
      rw [idxOf]
      cases hp : p x with
      | true => exact .inr ⟨0, by simp, by simp, hp, fun j hj => by omega⟩
      | false =>
        rw [if_neg (by simp)]
        rcases ih (k + 1) with h | ⟨i, h1, h2, h3, h4⟩
        · exact .inl h
        · refine .inr ⟨i + 1, by rw [h1]; congr 1; omega, by simpa using h2, by simpa using h3, fun j hj y hy => ?_⟩
          cases j with
          | zero => simp at hy; subst hy; exact hp
          | succ j => exact h4 j (by omega) y (by simpa using hy)
  rcases key xs 0 with h1 | ⟨i, h1, h2⟩
  · exact absurd h1 h
  · exact ⟨i, by rw [h1, Nat.zero_add], h2⟩
theorem idxOf_neg {p : α → Bool} : ∀ {xs : List α} {k : Nat}, idxOf p xs k = -1 → ∀ x ∈ xs, p x = false
  | x :: xs, k, h, y, hy => by
    rw [idxOf] at h
    cases hp : p x with
    | true => rw [hp, if_pos rfl] at h; omega
    | false =>
      rw [hp, if_neg (by simp)] at h
      rcases List.mem_cons.1 hy with rfl | hy
      · exact hp
      · exact idxOf_neg h y hy
theorem filter_all {p : α → Bool} {xs : List α} (h : ∀ x ∈ xs, p x = false) : xs.filter (fun x => !p x) = xs :=
  List.filter_eq_self.2 (fun x hx => by rw [h x hx]; rfl)
/-- As it stands while rows are struck: what is kept, what is left over, what comes. -/
def strk (p : α → Bool) (xs : List α) (j : Nat) (mid : List α) : List α := (xs.take j).filter (fun x => !p x) ++ mid ++ xs.drop j
theorem strk_len {p : α → Bool} {xs : List α} {j : Nat} {mid : List α} (h : ((xs.take j).filter (fun x => !p x)).length + mid.length = j) (hj : j ≤ xs.length) : (strk p xs j mid).length = xs.length := by
  unfold strk; simp only [List.length_append, List.length_drop]; omega
theorem strk_at {p : α → Bool} {xs : List α} {j : Nat} {mid : List α} (h : ((xs.take j).filter (fun x => !p x)).length + mid.length = j) (hj : j < xs.length) : (strk p xs j mid)[j]? = some xs[j] := by
  unfold strk
  rw [List.getElem?_append_right (by simp only [List.length_append]; omega)]
  simp only [List.length_append]
  rw [h, Nat.sub_self]
  simp [hj]
theorem take_filter_keep {p : α → Bool} {xs : List α} {j : Nat} (hj : j < xs.length) (hp : p xs[j] = false) : (xs.take (j + 1)).filter (fun x => !p x) = (xs.take j).filter (fun x => !p x) ++ [xs[j]] := by
  rw [take_succ hj, List.filter_append]; simp [hp]
theorem take_filter_drop {p : α → Bool} {xs : List α} {j : Nat} (hj : j < xs.length) (hp : p xs[j] = true) : (xs.take (j + 1)).filter (fun x => !p x) = (xs.take j).filter (fun x => !p x) := by
  rw [take_succ hj, List.filter_append]; simp [hp]
theorem strk_drop {p : α → Bool} {xs : List α} {j : Nat} {mid : List α} (hj : j < xs.length) (hp : p xs[j] = true) : strk p xs j mid = strk p xs (j + 1) (mid ++ [xs[j]]) := by
  unfold strk
  rw [take_filter_drop hj hp, List.drop_eq_getElem_cons hj]; simp
theorem strk_set {p : α → Bool} {row : α → List D} {xs : List α} {j : Nat} {m : α} {mid : List α} (hj : j < xs.length) (hp : p xs[j] = false) {i : Nat} (hi : i = ((xs.take j).filter (fun x => !p x)).length) :
    ((strk p xs j (m :: mid)).map row).set i (row xs[j]) = (strk p xs (j + 1) (mid ++ [xs[j]])).map row := by
  unfold strk
  rw [take_filter_keep hj hp, ← List.map_set, List.append_assoc, List.set_append_right _ _ (by omega), hi, Nat.sub_self, List.cons_append, List.set_cons_zero, List.drop_eq_getElem_cons hj]
  simp
theorem oslE {e sz s s' l l' : Nat} (hs : s = s') (hl : l = l') : AV.osl e sz s l = .osl e sz s' l' := by rw [hs, hl]
theorem strk_end {p : α → Bool} {row : α → List D} {xs : List α} {mid : List α} {z : List (List D)} {o : Nat} :
    ∃ more, ((strk p xs xs.length mid).map row).take (xs.filter (fun x => !p x)).length ++ z ++ ((strk p xs xs.length mid).map row).drop o = (xs.filter (fun x => !p x)).map row ++ more := by
  refine ⟨z ++ ((strk p xs xs.length mid).map row).drop o, ?_⟩
  have : ((strk p xs xs.length mid).map row).take (xs.filter (fun x => !p x)).length = (xs.filter (fun x => !p x)).map row := by
    unfold strk
    rw [List.take_length, List.append_assoc, List.map_append, List.take_left' (by simp)]
  rw [this, List.append_assoc]
theorem strk_first {p : α → Bool} {xs : List α} {i : Nat} (hi : i < xs.length) (hp : p xs[i] = true) (hb : ∀ j, j < i → ∀ x, xs[j]? = some x → p x = false) : strk p xs (i + 1) [xs[i]] = xs ∧ (xs.take (i + 1)).filter (fun x => !p x) = xs.take i := by
  have h1 : (xs.take i).filter (fun x => !p x) = xs.take i := filter_all (fun x hx => by
    obtain ⟨j, h2, rfl⟩ := List.mem_iff_getElem.1 hx
    have h3 : j < i := by simp at h2; omega
    exact hb j h3 _ (by rw [List.getElem_take]; exact List.getElem?_eq_getElem (by omega)))
  have h2 := take_filter_drop hi hp
  rw [h1] at h2
  refine ⟨?_, h2⟩
  unfold strk
  rw [h2, List.append_assoc, List.singleton_append, ← List.drop_eq_getElem_cons hi, List.take_append_drop]
end
end Go.AM
namespace Go.AM
/-! Readings: what data of a type is. -/
section
variable {P : Program} {t e : TypeId}
def Dec {α : Type} (P : Program) (t : TypeId) (row : α → List D) (wf : α → Prop) : Prop := ∀ {ds : List D}, HasC P t ds → ∃ x, ds = row x ∧ wf x
theorem dec_int (h : P.underlying t = some (.int .i64)) : Dec P t intRow wfInt := fun hc => by
  obtain ⟨n, rfl, hw⟩ := hasC_int h hc
  refine ⟨n, rfl, ?_⟩
  simp [Lit.wf, IntKind.min, IntKind.max, IntKind.signed, IntKind.bits] at hw
  unfold wfInt; omega
theorem dec_byte (h : P.underlying t = some (.int .u8)) : Dec P t byteRow (fun _ => True) := fun hc => by
  obtain ⟨n, rfl, hw⟩ := hasC_int h hc
  simp [Lit.wf, IntKind.min, IntKind.max, IntKind.signed, IntKind.bits] at hw
  refine ⟨byteOf n, ?_, trivial⟩
  unfold byteRow
  rw [byteOf_nat]
  congr 2; omega
theorem dec_bool (h : P.underlying t = some .bool) : Dec P t boolRow (fun _ => True) := fun hc => by
  obtain ⟨n, rfl⟩ := hasC_bool h hc
  exact ⟨n, rfl, trivial⟩
theorem dec_str (h : P.underlying t = some .string) : Dec P t strRow wfStr := fun hc => by
  obtain ⟨n, rfl, hw⟩ := hasC_str h hc
  exact ⟨n, rfl, hw⟩
theorem dec_slice {α : Type} {row : α → List D} {wf : α → Prop} {sz : Nat} (h : P.underlying t = some (.slice e)) (hz : P.cellsOf e = sz) (he : Dec P e row wf) : Dec P t (fun xs => [.sl sz (xs.map row)]) (wfL wf) := fun hc => by
  obtain ⟨rows, rfl, h1, h2⟩ := hasC_slice h hc
  obtain ⟨xs, rfl, h3⟩ := hasRs_map (f := row) (ok := wf) (fun ds hd => he hd) h2
  exact ⟨xs, by rw [hz], by simpa using h1, h3⟩
end
end Go.AM

/- Plain data of the program: its structs. -/
namespace Go.AM
set_option linter.unusedVariables false
structure GLock where
  Tx : Int
  Table : Int
  Row : Int
  Mode : Int
def GLock.av (x : GLock) : AV := .agg [.d (.int .i64 x.Tx), .d (.int .i64 x.Table), .d (.int .i64 x.Row), .d (.int .i64 x.Mode)]
theorem GLock.ext1 {a b : GLock} (h0 : a.Tx = b.Tx) (h1 : a.Table = b.Table) (h2 : a.Row = b.Row) (h3 : a.Mode = b.Mode) : a = b := by cases a; cases b; simp_all
def GLock.row (x : GLock) : List D := [.int .i64 x.Tx, .int .i64 x.Table, .int .i64 x.Row, .int .i64 x.Mode]
def GLock.wf (x : GLock) : Prop := wfInt x.Tx ∧ wfInt x.Table ∧ wfInt x.Row ∧ wfInt x.Mode
def GLock.zero : GLock := ⟨0, 0, 0, 0⟩
theorem GLock.dec {P : Program} {t : TypeId} {fs : Array Field} {f0 f1 f2 f3 : Field} (h : P.underlying t = some (.struct fs)) (hfs : fs.toList = [f0, f1, f2, f3]) (d0 : Dec P f0.type intRow wfInt) (d1 : Dec P f1.type intRow wfInt) (d2 : Dec P f2.type intRow wfInt) (d3 : Dec P f3.type intRow wfInt) : Dec P t GLock.row GLock.wf := fun hc => by
  have g := hasC_struct h hc
  rw [hfs] at g
  obtain ⟨a0, b0, e0, c0, g⟩ := hasFs_cons g
  obtain ⟨x0, r0, w0⟩ := d0 c0
  obtain ⟨a1, b1, e1, c1, g⟩ := hasFs_cons g
  obtain ⟨x1, r1, w1⟩ := d1 c1
  obtain ⟨a2, b2, e2, c2, g⟩ := hasFs_cons g
  obtain ⟨x2, r2, w2⟩ := d2 c2
  obtain ⟨a3, b3, e3, c3, g⟩ := hasFs_cons g
  obtain ⟨x3, r3, w3⟩ := d3 c3
  have z := hasFs_nil g
  exact ⟨⟨x0, x1, x2, x3⟩, by rw [e0, r0, e1, r1, e2, r2, e3, r3, z]; rfl, ⟨w0, w1, w2, w3⟩⟩
def GLock.mk1 (k : Nat) (x : GLock) : GLock := ⟨((k : Nat) : Int), ((k + 1 : Nat) : Int), ((k + 2 : Nat) : Int), ((k + 3 : Nat) : Int)⟩
theorem GLock.eq_iff {a b : GLock} : a = b ↔ (a.Tx = b.Tx ∧ a.Table = b.Table ∧ a.Row = b.Row ∧ a.Mode = b.Mode) := by
  constructor
  · rintro rfl; exact ⟨rfl, rfl, rfl, rfl⟩
  · intro h; cases a; cases b; simp_all
theorem GLock.q_eqs {C : Cx} {st : St} {neg : Bool} {x y : XA} {a b : GLock} (hx : evA st.sl x = some a.av) (hy : evA st.sl y = some b.av) : QStep C st (.eqs neg [0, 0, 0, 0] x y) (bool (bif neg then !eqb a b else eqb a b)) := by
  refine q_as (Go.AM.q_eqs hx hy rfl) ?_
  have e : (decide (a.Tx = b.Tx) && (decide (a.Table = b.Table) && (decide (a.Row = b.Row) && (decide (a.Mode = b.Mode) && true)))) = eqb a b := by
    rw [Bool.eq_iff_iff, eqb_iff, GLock.eq_iff]; simp [Bool.and_eq_true]
  show bool (bif neg then !(decide (a.Tx = b.Tx) && (decide (a.Table = b.Table) && (decide (a.Row = b.Row) && (decide (a.Mode = b.Mode) && true)))) else (decide (a.Tx = b.Tx) && (decide (a.Table = b.Table) && (decide (a.Row = b.Row) && (decide (a.Mode = b.Mode) && true))))) = _
  rw [e]

structure GWait where
  Tx : Int
  For : Int
def GWait.av (x : GWait) : AV := .agg [.d (.int .i64 x.Tx), .d (.int .i64 x.For)]
theorem GWait.ext1 {a b : GWait} (h0 : a.Tx = b.Tx) (h1 : a.For = b.For) : a = b := by cases a; cases b; simp_all
def GWait.row (x : GWait) : List D := [.int .i64 x.Tx, .int .i64 x.For]
def GWait.wf (x : GWait) : Prop := wfInt x.Tx ∧ wfInt x.For
def GWait.zero : GWait := ⟨0, 0⟩
theorem GWait.dec {P : Program} {t : TypeId} {fs : Array Field} {f0 f1 : Field} (h : P.underlying t = some (.struct fs)) (hfs : fs.toList = [f0, f1]) (d0 : Dec P f0.type intRow wfInt) (d1 : Dec P f1.type intRow wfInt) : Dec P t GWait.row GWait.wf := fun hc => by
  have g := hasC_struct h hc
  rw [hfs] at g
  obtain ⟨a0, b0, e0, c0, g⟩ := hasFs_cons g
  obtain ⟨x0, r0, w0⟩ := d0 c0
  obtain ⟨a1, b1, e1, c1, g⟩ := hasFs_cons g
  obtain ⟨x1, r1, w1⟩ := d1 c1
  have z := hasFs_nil g
  exact ⟨⟨x0, x1⟩, by rw [e0, r0, e1, r1, z]; rfl, ⟨w0, w1⟩⟩
def GWait.mk1 (k : Nat) (x : GWait) : GWait := ⟨((k : Nat) : Int), ((k + 1 : Nat) : Int)⟩
theorem GWait.eq_iff {a b : GWait} : a = b ↔ (a.Tx = b.Tx ∧ a.For = b.For) := by
  constructor
  · rintro rfl; exact ⟨rfl, rfl⟩
  · intro h; cases a; cases b; simp_all
theorem GWait.q_eqs {C : Cx} {st : St} {neg : Bool} {x y : XA} {a b : GWait} (hx : evA st.sl x = some a.av) (hy : evA st.sl y = some b.av) : QStep C st (.eqs neg [0, 0] x y) (bool (bif neg then !eqb a b else eqb a b)) := by
  refine q_as (Go.AM.q_eqs hx hy rfl) ?_
  have e : (decide (a.Tx = b.Tx) && (decide (a.For = b.For) && true)) = eqb a b := by
    rw [Bool.eq_iff_iff, eqb_iff, GWait.eq_iff]; simp [Bool.and_eq_true]
  show bool (bif neg then !(decide (a.Tx = b.Tx) && (decide (a.For = b.For) && true)) else (decide (a.Tx = b.Tx) && (decide (a.For = b.For) && true))) = _
  rw [e]

structure GLocks where
  Held : List GLock
  Waits : List GWait
def GLocks.av (x : GLocks) : AV := .agg [.d (.sl 4 (x.Held.map GLock.row)), .d (.sl 2 (x.Waits.map GWait.row))]
theorem GLocks.ext1 {a b : GLocks} (h0 : a.Held = b.Held) (h1 : a.Waits = b.Waits) : a = b := by cases a; cases b; simp_all
def GLocks.row (x : GLocks) : List D := [.sl 4 (x.Held.map GLock.row), .sl 2 (x.Waits.map GWait.row)]
def GLocks.wf (x : GLocks) : Prop := wfL GLock.wf x.Held ∧ wfL GWait.wf x.Waits
def GLocks.sz (x : GLocks) : Nat := szL (fun _ => 0) x.Held + szL (fun _ => 0) x.Waits
def GLocks.zero : GLocks := ⟨[], []⟩
theorem GLocks.dec {P : Program} {t : TypeId} {fs : Array Field} {f0 f1 : Field} (h : P.underlying t = some (.struct fs)) (hfs : fs.toList = [f0, f1]) (d0 : Dec P f0.type (fun xs => [.sl 4 (xs.map GLock.row)]) (wfL GLock.wf)) (d1 : Dec P f1.type (fun xs => [.sl 2 (xs.map GWait.row)]) (wfL GWait.wf)) : Dec P t GLocks.row GLocks.wf := fun hc => by
  have g := hasC_struct h hc
  rw [hfs] at g
  obtain ⟨a0, b0, e0, c0, g⟩ := hasFs_cons g
  obtain ⟨x0, r0, w0⟩ := d0 c0
  obtain ⟨a1, b1, e1, c1, g⟩ := hasFs_cons g
  obtain ⟨x1, r1, w1⟩ := d1 c1
  have z := hasFs_nil g
  exact ⟨⟨x0, x1⟩, by rw [e0, r0, e1, r1, z]; rfl, ⟨w0, w1⟩⟩
abbrev GLocks.avO (e0 e1 : Nat) (x : GLocks) : AV := .agg [.osl e0 4 0 x.Held.length, .osl e1 2 0 x.Waits.length]
abbrev GLocks.hO (e0 e1 : Nat) (x : GLocks) : List (Nat × OB) := [(e0, .rows 4 (x.Held.map GLock.row)), (e1, .rows 2 (x.Waits.map GWait.row))]
def GLocks.mkS (k : Nat) (x : GLocks) : GLocks := ⟨markL GLock.mk1 4 (k) x.Held, markL GWait.mk1 2 (k + 4 * x.Held.length) x.Waits⟩
def GLocks.mkN (k : Nat) (x : GLocks) : Nat := k + 4 * x.Held.length + 2 * x.Waits.length

structure GPending where
  At : Int
  Data : Str
def GPending.av (x : GPending) : AV := .agg [.d (.int .i64 x.At), .d (.str x.Data)]
theorem GPending.ext1 {a b : GPending} (h0 : a.At = b.At) (h1 : a.Data = b.Data) : a = b := by cases a; cases b; simp_all
def GPending.row (x : GPending) : List D := [.int .i64 x.At, .str x.Data]
def GPending.wf (x : GPending) : Prop := wfInt x.At ∧ wfStr x.Data
def GPending.sz (x : GPending) : Nat := x.Data.length
def GPending.zero : GPending := ⟨0, []⟩
theorem GPending.dec {P : Program} {t : TypeId} {fs : Array Field} {f0 f1 : Field} (h : P.underlying t = some (.struct fs)) (hfs : fs.toList = [f0, f1]) (d0 : Dec P f0.type intRow wfInt) (d1 : Dec P f1.type strRow wfStr) : Dec P t GPending.row GPending.wf := fun hc => by
  have g := hasC_struct h hc
  rw [hfs] at g
  obtain ⟨a0, b0, e0, c0, g⟩ := hasFs_cons g
  obtain ⟨x0, r0, w0⟩ := d0 c0
  obtain ⟨a1, b1, e1, c1, g⟩ := hasFs_cons g
  obtain ⟨x1, r1, w1⟩ := d1 c1
  have z := hasFs_nil g
  exact ⟨⟨x0, x1⟩, by rw [e0, r0, e1, r1, z]; rfl, ⟨w0, w1⟩⟩
def GPending.mk1 (k : Nat) (x : GPending) : GPending := ⟨((k : Nat) : Int), mkT (k + 1)⟩
theorem GPending.eq_iff {a b : GPending} : a = b ↔ (a.At = b.At ∧ a.Data = b.Data) := by
  constructor
  · rintro rfl; exact ⟨rfl, rfl⟩
  · intro h; cases a; cases b; simp_all
theorem GPending.q_eqs {C : Cx} {st : St} {neg : Bool} {x y : XA} {a b : GPending} (hx : evA st.sl x = some a.av) (hy : evA st.sl y = some b.av) : QStep C st (.eqs neg [0, 2] x y) (bool (bif neg then !eqb a b else eqb a b)) := by
  refine q_as (Go.AM.q_eqs hx hy rfl) ?_
  have e : (decide (a.At = b.At) && (decide (a.Data = b.Data) && true)) = eqb a b := by
    rw [Bool.eq_iff_iff, eqb_iff, GPending.eq_iff]; simp [Bool.and_eq_true]
  show bool (bif neg then !(decide (a.At = b.At) && (decide (a.Data = b.Data) && true)) else (decide (a.At = b.At) && (decide (a.Data = b.Data) && true))) = _
  rw [e]

structure GDisk where
  Sectors : List Str
  Cache : List GPending
  Armed : Bool
  Keep : List Int
def GDisk.av (x : GDisk) : AV := .agg [.d (.sl 1 (x.Sectors.map strRow)), .d (.sl 2 (x.Cache.map GPending.row)), .d (.bool x.Armed), .d (.sl 1 (x.Keep.map intRow))]
theorem GDisk.ext1 {a b : GDisk} (h0 : a.Sectors = b.Sectors) (h1 : a.Cache = b.Cache) (h2 : a.Armed = b.Armed) (h3 : a.Keep = b.Keep) : a = b := by cases a; cases b; simp_all
def GDisk.row (x : GDisk) : List D := [.sl 1 (x.Sectors.map strRow), .sl 2 (x.Cache.map GPending.row), .bool x.Armed, .sl 1 (x.Keep.map intRow)]
def GDisk.wf (x : GDisk) : Prop := wfL wfStr x.Sectors ∧ wfL GPending.wf x.Cache ∧ (fun _ => True) x.Armed ∧ wfL wfInt x.Keep
def GDisk.sz (x : GDisk) : Nat := szL List.length x.Sectors + szL GPending.sz x.Cache + szL (fun _ => 0) x.Keep
def GDisk.zero : GDisk := ⟨[], [], false, []⟩
theorem GDisk.dec {P : Program} {t : TypeId} {fs : Array Field} {f0 f1 f2 f3 : Field} (h : P.underlying t = some (.struct fs)) (hfs : fs.toList = [f0, f1, f2, f3]) (d0 : Dec P f0.type (fun xs => [.sl 1 (xs.map strRow)]) (wfL wfStr)) (d1 : Dec P f1.type (fun xs => [.sl 2 (xs.map GPending.row)]) (wfL GPending.wf)) (d2 : Dec P f2.type boolRow (fun _ => True)) (d3 : Dec P f3.type (fun xs => [.sl 1 (xs.map intRow)]) (wfL wfInt)) : Dec P t GDisk.row GDisk.wf := fun hc => by
  have g := hasC_struct h hc
  rw [hfs] at g
  obtain ⟨a0, b0, e0, c0, g⟩ := hasFs_cons g
  obtain ⟨x0, r0, w0⟩ := d0 c0
  obtain ⟨a1, b1, e1, c1, g⟩ := hasFs_cons g
  obtain ⟨x1, r1, w1⟩ := d1 c1
  obtain ⟨a2, b2, e2, c2, g⟩ := hasFs_cons g
  obtain ⟨x2, r2, w2⟩ := d2 c2
  obtain ⟨a3, b3, e3, c3, g⟩ := hasFs_cons g
  obtain ⟨x3, r3, w3⟩ := d3 c3
  have z := hasFs_nil g
  exact ⟨⟨x0, x1, x2, x3⟩, by rw [e0, r0, e1, r1, e2, r2, e3, r3, z]; rfl, ⟨w0, w1, w2, w3⟩⟩
abbrev GDisk.avO (e0 e1 e2 : Nat) (x : GDisk) : AV := .agg [.osl e0 1 0 x.Sectors.length, .osl e1 2 0 x.Cache.length, .d (.bool x.Armed), .osl e2 1 0 x.Keep.length]
abbrev GDisk.hO (e0 e1 e2 : Nat) (x : GDisk) : List (Nat × OB) := [(e0, .rows 1 (x.Sectors.map strRow)), (e1, .rows 2 (x.Cache.map GPending.row)), (e2, .rows 1 (x.Keep.map intRow))]
def GDisk.mkS (k : Nat) (x : GDisk) : GDisk := ⟨markL (fun k _ => mkT k) 1 (k) x.Sectors, markL GPending.mk1 2 (k + 1 * x.Sectors.length) x.Cache, x.Armed, markL (fun k _ => (k : Int)) 1 (k + 1 * x.Sectors.length + 2 * x.Cache.length) x.Keep⟩
def GDisk.mkN (k : Nat) (x : GDisk) : Nat := k + 1 * x.Sectors.length + 2 * x.Cache.length + 1 * x.Keep.length

def Page.row (x : Page) : List D := [.int .i64 x.lsn, .sl 1 (x.slots.map strRow)]
def Page.wf (x : Page) : Prop := wfInt x.lsn ∧ wfL wfStr x.slots
def Page.sz (x : Page) : Nat := szL List.length x.slots
theorem Page.dec {P : Program} {t : TypeId} {fs : Array Field} {f0 f1 : Field} (h : P.underlying t = some (.struct fs)) (hfs : fs.toList = [f0, f1]) (d0 : Dec P f0.type intRow wfInt) (d1 : Dec P f1.type (fun xs => [.sl 1 (xs.map strRow)]) (wfL wfStr)) : Dec P t Page.row Page.wf := fun hc => by
  have g := hasC_struct h hc
  rw [hfs] at g
  obtain ⟨a0, b0, e0, c0, g⟩ := hasFs_cons g
  obtain ⟨x0, r0, w0⟩ := d0 c0
  obtain ⟨a1, b1, e1, c1, g⟩ := hasFs_cons g
  obtain ⟨x1, r1, w1⟩ := d1 c1
  have z := hasFs_nil g
  exact ⟨⟨x0, x1⟩, by rw [e0, r0, e1, r1, z]; rfl, ⟨w0, w1⟩⟩
abbrev Page.avO (e0 : Nat) (x : Page) : AV := .agg [.d (.int .i64 x.lsn), .osl e0 1 0 x.slots.length]
abbrev Page.hO (e0 : Nat) (x : Page) : List (Nat × OB) := [(e0, .rows 1 (x.slots.map strRow))]
def Page.mkS (k : Nat) (x : Page) : Page := ⟨x.lsn, markL (fun k _ => mkT k) 1 (k) x.slots⟩
def Page.mkN (k : Nat) (x : Page) : Nat := k + 1 * x.slots.length

structure GValue where
  Kind : Int
  N : Int
  T : Str
def GValue.av (x : GValue) : AV := .agg [.d (.int .i64 x.Kind), .d (.int .i64 x.N), .d (.str x.T)]
theorem GValue.ext1 {a b : GValue} (h0 : a.Kind = b.Kind) (h1 : a.N = b.N) (h2 : a.T = b.T) : a = b := by cases a; cases b; simp_all
def GValue.row (x : GValue) : List D := [.int .i64 x.Kind, .int .i64 x.N, .str x.T]
def GValue.wf (x : GValue) : Prop := wfInt x.Kind ∧ wfInt x.N ∧ wfStr x.T
def GValue.sz (x : GValue) : Nat := x.T.length
def GValue.zero : GValue := ⟨0, 0, []⟩
theorem GValue.dec {P : Program} {t : TypeId} {fs : Array Field} {f0 f1 f2 : Field} (h : P.underlying t = some (.struct fs)) (hfs : fs.toList = [f0, f1, f2]) (d0 : Dec P f0.type intRow wfInt) (d1 : Dec P f1.type intRow wfInt) (d2 : Dec P f2.type strRow wfStr) : Dec P t GValue.row GValue.wf := fun hc => by
  have g := hasC_struct h hc
  rw [hfs] at g
  obtain ⟨a0, b0, e0, c0, g⟩ := hasFs_cons g
  obtain ⟨x0, r0, w0⟩ := d0 c0
  obtain ⟨a1, b1, e1, c1, g⟩ := hasFs_cons g
  obtain ⟨x1, r1, w1⟩ := d1 c1
  obtain ⟨a2, b2, e2, c2, g⟩ := hasFs_cons g
  obtain ⟨x2, r2, w2⟩ := d2 c2
  have z := hasFs_nil g
  exact ⟨⟨x0, x1, x2⟩, by rw [e0, r0, e1, r1, e2, r2, z]; rfl, ⟨w0, w1, w2⟩⟩
def GValue.mk1 (k : Nat) (x : GValue) : GValue := ⟨((k : Nat) : Int), ((k + 1 : Nat) : Int), mkT (k + 2)⟩
theorem GValue.eq_iff {a b : GValue} : a = b ↔ (a.Kind = b.Kind ∧ a.N = b.N ∧ a.T = b.T) := by
  constructor
  · rintro rfl; exact ⟨rfl, rfl, rfl⟩
  · intro h; cases a; cases b; simp_all
theorem GValue.q_eqs {C : Cx} {st : St} {neg : Bool} {x y : XA} {a b : GValue} (hx : evA st.sl x = some a.av) (hy : evA st.sl y = some b.av) : QStep C st (.eqs neg [0, 0, 2] x y) (bool (bif neg then !eqb a b else eqb a b)) := by
  refine q_as (Go.AM.q_eqs hx hy rfl) ?_
  have e : (decide (a.Kind = b.Kind) && (decide (a.N = b.N) && (decide (a.T = b.T) && true))) = eqb a b := by
    rw [Bool.eq_iff_iff, eqb_iff, GValue.eq_iff]; simp [Bool.and_eq_true]
  show bool (bif neg then !(decide (a.Kind = b.Kind) && (decide (a.N = b.N) && (decide (a.T = b.T) && true))) else (decide (a.Kind = b.Kind) && (decide (a.N = b.N) && (decide (a.T = b.T) && true)))) = _
  rw [e]

structure GExprNode where
  Op : Int
  A : Int
  B : Int
  Column : Int
  V : GValue
def GExprNode.av (x : GExprNode) : AV := .agg [.d (.int .i64 x.Op), .d (.int .i64 x.A), .d (.int .i64 x.B), .d (.int .i64 x.Column), .d (.int .i64 x.V.Kind), .d (.int .i64 x.V.N), .d (.str x.V.T)]
theorem GExprNode.ext1 {a b : GExprNode} (h0 : a.Op = b.Op) (h1 : a.A = b.A) (h2 : a.B = b.B) (h3 : a.Column = b.Column) (h4 : a.V = b.V) : a = b := by cases a; cases b; simp_all
def GExprNode.row (x : GExprNode) : List D := [.int .i64 x.Op, .int .i64 x.A, .int .i64 x.B, .int .i64 x.Column, .int .i64 x.V.Kind, .int .i64 x.V.N, .str x.V.T]
def GExprNode.wf (x : GExprNode) : Prop := wfInt x.Op ∧ wfInt x.A ∧ wfInt x.B ∧ wfInt x.Column ∧ GValue.wf x.V
def GExprNode.sz (x : GExprNode) : Nat := GValue.sz x.V
def GExprNode.zero : GExprNode := ⟨0, 0, 0, 0, GValue.zero⟩
theorem GExprNode.dec {P : Program} {t : TypeId} {fs : Array Field} {f0 f1 f2 f3 f4 : Field} (h : P.underlying t = some (.struct fs)) (hfs : fs.toList = [f0, f1, f2, f3, f4]) (d0 : Dec P f0.type intRow wfInt) (d1 : Dec P f1.type intRow wfInt) (d2 : Dec P f2.type intRow wfInt) (d3 : Dec P f3.type intRow wfInt) (d4 : Dec P f4.type GValue.row GValue.wf) : Dec P t GExprNode.row GExprNode.wf := fun hc => by
  have g := hasC_struct h hc
  rw [hfs] at g
  obtain ⟨a0, b0, e0, c0, g⟩ := hasFs_cons g
  obtain ⟨x0, r0, w0⟩ := d0 c0
  obtain ⟨a1, b1, e1, c1, g⟩ := hasFs_cons g
  obtain ⟨x1, r1, w1⟩ := d1 c1
  obtain ⟨a2, b2, e2, c2, g⟩ := hasFs_cons g
  obtain ⟨x2, r2, w2⟩ := d2 c2
  obtain ⟨a3, b3, e3, c3, g⟩ := hasFs_cons g
  obtain ⟨x3, r3, w3⟩ := d3 c3
  obtain ⟨a4, b4, e4, c4, g⟩ := hasFs_cons g
  obtain ⟨x4, r4, w4⟩ := d4 c4
  have z := hasFs_nil g
  exact ⟨⟨x0, x1, x2, x3, x4⟩, by rw [e0, r0, e1, r1, e2, r2, e3, r3, e4, r4, z]; rfl, ⟨w0, w1, w2, w3, w4⟩⟩
def GExprNode.mk1 (k : Nat) (x : GExprNode) : GExprNode := ⟨((k : Nat) : Int), ((k + 1 : Nat) : Int), ((k + 2 : Nat) : Int), ((k + 3 : Nat) : Int), ⟨((k + 4 : Nat) : Int), ((k + 5 : Nat) : Int), mkT (k + 6)⟩⟩
theorem GExprNode.eq_iff {a b : GExprNode} : a = b ↔ (a.Op = b.Op ∧ a.A = b.A ∧ a.B = b.B ∧ a.Column = b.Column ∧ a.V.Kind = b.V.Kind ∧ a.V.N = b.V.N ∧ a.V.T = b.V.T) := by
  constructor
  · rintro rfl; exact ⟨rfl, rfl, rfl, rfl, rfl, rfl, rfl⟩
  · intro h; cases a; cases b; simp_all [GValue.eq_iff]
theorem GExprNode.q_eqs {C : Cx} {st : St} {neg : Bool} {x y : XA} {a b : GExprNode} (hx : evA st.sl x = some a.av) (hy : evA st.sl y = some b.av) : QStep C st (.eqs neg [0, 0, 0, 0, 0, 0, 2] x y) (bool (bif neg then !eqb a b else eqb a b)) := by
  refine q_as (Go.AM.q_eqs hx hy rfl) ?_
  have e : (decide (a.Op = b.Op) && (decide (a.A = b.A) && (decide (a.B = b.B) && (decide (a.Column = b.Column) && (decide (a.V.Kind = b.V.Kind) && (decide (a.V.N = b.V.N) && (decide (a.V.T = b.V.T) && true))))))) = eqb a b := by
    rw [Bool.eq_iff_iff, eqb_iff, GExprNode.eq_iff]; simp [Bool.and_eq_true]
  show bool (bif neg then !(decide (a.Op = b.Op) && (decide (a.A = b.A) && (decide (a.B = b.B) && (decide (a.Column = b.Column) && (decide (a.V.Kind = b.V.Kind) && (decide (a.V.N = b.V.N) && (decide (a.V.T = b.V.T) && true))))))) else (decide (a.Op = b.Op) && (decide (a.A = b.A) && (decide (a.B = b.B) && (decide (a.Column = b.Column) && (decide (a.V.Kind = b.V.Kind) && (decide (a.V.N = b.V.N) && (decide (a.V.T = b.V.T) && true)))))))) = _
  rw [e]

structure GExpr where
  Nodes : List GExprNode
def GExpr.av (x : GExpr) : AV := .agg [.d (.sl 7 (x.Nodes.map GExprNode.row))]
theorem GExpr.ext1 {a b : GExpr} (h0 : a.Nodes = b.Nodes) : a = b := by cases a; cases b; simp_all
def GExpr.row (x : GExpr) : List D := [.sl 7 (x.Nodes.map GExprNode.row)]
def GExpr.wf (x : GExpr) : Prop := wfL GExprNode.wf x.Nodes
def GExpr.sz (x : GExpr) : Nat := szL GExprNode.sz x.Nodes
def GExpr.zero : GExpr := ⟨[]⟩
theorem GExpr.dec {P : Program} {t : TypeId} {fs : Array Field} {f0 : Field} (h : P.underlying t = some (.struct fs)) (hfs : fs.toList = [f0]) (d0 : Dec P f0.type (fun xs => [.sl 7 (xs.map GExprNode.row)]) (wfL GExprNode.wf)) : Dec P t GExpr.row GExpr.wf := fun hc => by
  have g := hasC_struct h hc
  rw [hfs] at g
  obtain ⟨a0, b0, e0, c0, g⟩ := hasFs_cons g
  obtain ⟨x0, r0, w0⟩ := d0 c0
  have z := hasFs_nil g
  exact ⟨⟨x0⟩, by rw [e0, r0, z]; rfl, w0⟩
abbrev GExpr.avO (e0 : Nat) (x : GExpr) : AV := .agg [.osl e0 7 0 x.Nodes.length]
abbrev GExpr.hO (e0 : Nat) (x : GExpr) : List (Nat × OB) := [(e0, .rows 7 (x.Nodes.map GExprNode.row))]
def GExpr.mkS (k : Nat) (x : GExpr) : GExpr := ⟨markL GExprNode.mk1 7 (k) x.Nodes⟩
def GExpr.mkN (k : Nat) (x : GExpr) : Nat := k + 7 * x.Nodes.length

structure GIns where
  Op : Int
  N : Int
  V : GValue
def GIns.av (x : GIns) : AV := .agg [.d (.int .i64 x.Op), .d (.int .i64 x.N), .d (.int .i64 x.V.Kind), .d (.int .i64 x.V.N), .d (.str x.V.T)]
theorem GIns.ext1 {a b : GIns} (h0 : a.Op = b.Op) (h1 : a.N = b.N) (h2 : a.V = b.V) : a = b := by cases a; cases b; simp_all
def GIns.row (x : GIns) : List D := [.int .i64 x.Op, .int .i64 x.N, .int .i64 x.V.Kind, .int .i64 x.V.N, .str x.V.T]
def GIns.wf (x : GIns) : Prop := wfInt x.Op ∧ wfInt x.N ∧ GValue.wf x.V
def GIns.sz (x : GIns) : Nat := GValue.sz x.V
def GIns.zero : GIns := ⟨0, 0, GValue.zero⟩
theorem GIns.dec {P : Program} {t : TypeId} {fs : Array Field} {f0 f1 f2 : Field} (h : P.underlying t = some (.struct fs)) (hfs : fs.toList = [f0, f1, f2]) (d0 : Dec P f0.type intRow wfInt) (d1 : Dec P f1.type intRow wfInt) (d2 : Dec P f2.type GValue.row GValue.wf) : Dec P t GIns.row GIns.wf := fun hc => by
  have g := hasC_struct h hc
  rw [hfs] at g
  obtain ⟨a0, b0, e0, c0, g⟩ := hasFs_cons g
  obtain ⟨x0, r0, w0⟩ := d0 c0
  obtain ⟨a1, b1, e1, c1, g⟩ := hasFs_cons g
  obtain ⟨x1, r1, w1⟩ := d1 c1
  obtain ⟨a2, b2, e2, c2, g⟩ := hasFs_cons g
  obtain ⟨x2, r2, w2⟩ := d2 c2
  have z := hasFs_nil g
  exact ⟨⟨x0, x1, x2⟩, by rw [e0, r0, e1, r1, e2, r2, z]; rfl, ⟨w0, w1, w2⟩⟩
def GIns.mk1 (k : Nat) (x : GIns) : GIns := ⟨((k : Nat) : Int), ((k + 1 : Nat) : Int), ⟨((k + 2 : Nat) : Int), ((k + 3 : Nat) : Int), mkT (k + 4)⟩⟩
theorem GIns.eq_iff {a b : GIns} : a = b ↔ (a.Op = b.Op ∧ a.N = b.N ∧ a.V.Kind = b.V.Kind ∧ a.V.N = b.V.N ∧ a.V.T = b.V.T) := by
  constructor
  · rintro rfl; exact ⟨rfl, rfl, rfl, rfl, rfl⟩
  · intro h; cases a; cases b; simp_all [GValue.eq_iff]
theorem GIns.q_eqs {C : Cx} {st : St} {neg : Bool} {x y : XA} {a b : GIns} (hx : evA st.sl x = some a.av) (hy : evA st.sl y = some b.av) : QStep C st (.eqs neg [0, 0, 0, 0, 2] x y) (bool (bif neg then !eqb a b else eqb a b)) := by
  refine q_as (Go.AM.q_eqs hx hy rfl) ?_
  have e : (decide (a.Op = b.Op) && (decide (a.N = b.N) && (decide (a.V.Kind = b.V.Kind) && (decide (a.V.N = b.V.N) && (decide (a.V.T = b.V.T) && true))))) = eqb a b := by
    rw [Bool.eq_iff_iff, eqb_iff, GIns.eq_iff]; simp [Bool.and_eq_true]
  show bool (bif neg then !(decide (a.Op = b.Op) && (decide (a.N = b.N) && (decide (a.V.Kind = b.V.Kind) && (decide (a.V.N = b.V.N) && (decide (a.V.T = b.V.T) && true))))) else (decide (a.Op = b.Op) && (decide (a.N = b.N) && (decide (a.V.Kind = b.V.Kind) && (decide (a.V.N = b.V.N) && (decide (a.V.T = b.V.T) && true)))))) = _
  rw [e]

structure GRow where
  Id : Int
  N : GValue
  Name : GValue
def GRow.av (x : GRow) : AV := .agg [.d (.int .i64 x.Id), .d (.int .i64 x.N.Kind), .d (.int .i64 x.N.N), .d (.str x.N.T), .d (.int .i64 x.Name.Kind), .d (.int .i64 x.Name.N), .d (.str x.Name.T)]
theorem GRow.ext1 {a b : GRow} (h0 : a.Id = b.Id) (h1 : a.N = b.N) (h2 : a.Name = b.Name) : a = b := by cases a; cases b; simp_all
def GRow.row (x : GRow) : List D := [.int .i64 x.Id, .int .i64 x.N.Kind, .int .i64 x.N.N, .str x.N.T, .int .i64 x.Name.Kind, .int .i64 x.Name.N, .str x.Name.T]
def GRow.wf (x : GRow) : Prop := wfInt x.Id ∧ GValue.wf x.N ∧ GValue.wf x.Name
def GRow.sz (x : GRow) : Nat := GValue.sz x.N + GValue.sz x.Name
def GRow.zero : GRow := ⟨0, GValue.zero, GValue.zero⟩
theorem GRow.dec {P : Program} {t : TypeId} {fs : Array Field} {f0 f1 f2 : Field} (h : P.underlying t = some (.struct fs)) (hfs : fs.toList = [f0, f1, f2]) (d0 : Dec P f0.type intRow wfInt) (d1 : Dec P f1.type GValue.row GValue.wf) (d2 : Dec P f2.type GValue.row GValue.wf) : Dec P t GRow.row GRow.wf := fun hc => by
  have g := hasC_struct h hc
  rw [hfs] at g
  obtain ⟨a0, b0, e0, c0, g⟩ := hasFs_cons g
  obtain ⟨x0, r0, w0⟩ := d0 c0
  obtain ⟨a1, b1, e1, c1, g⟩ := hasFs_cons g
  obtain ⟨x1, r1, w1⟩ := d1 c1
  obtain ⟨a2, b2, e2, c2, g⟩ := hasFs_cons g
  obtain ⟨x2, r2, w2⟩ := d2 c2
  have z := hasFs_nil g
  exact ⟨⟨x0, x1, x2⟩, by rw [e0, r0, e1, r1, e2, r2, z]; rfl, ⟨w0, w1, w2⟩⟩
def GRow.mk1 (k : Nat) (x : GRow) : GRow := ⟨((k : Nat) : Int), ⟨((k + 1 : Nat) : Int), ((k + 2 : Nat) : Int), mkT (k + 3)⟩, ⟨((k + 4 : Nat) : Int), ((k + 5 : Nat) : Int), mkT (k + 6)⟩⟩
theorem GRow.eq_iff {a b : GRow} : a = b ↔ (a.Id = b.Id ∧ a.N.Kind = b.N.Kind ∧ a.N.N = b.N.N ∧ a.N.T = b.N.T ∧ a.Name.Kind = b.Name.Kind ∧ a.Name.N = b.Name.N ∧ a.Name.T = b.Name.T) := by
  constructor
  · rintro rfl; exact ⟨rfl, rfl, rfl, rfl, rfl, rfl, rfl⟩
  · intro h; cases a; cases b; simp_all [GValue.eq_iff, GValue.eq_iff]
theorem GRow.q_eqs {C : Cx} {st : St} {neg : Bool} {x y : XA} {a b : GRow} (hx : evA st.sl x = some a.av) (hy : evA st.sl y = some b.av) : QStep C st (.eqs neg [0, 0, 0, 2, 0, 0, 2] x y) (bool (bif neg then !eqb a b else eqb a b)) := by
  refine q_as (Go.AM.q_eqs hx hy rfl) ?_
  have e : (decide (a.Id = b.Id) && (decide (a.N.Kind = b.N.Kind) && (decide (a.N.N = b.N.N) && (decide (a.N.T = b.N.T) && (decide (a.Name.Kind = b.Name.Kind) && (decide (a.Name.N = b.Name.N) && (decide (a.Name.T = b.Name.T) && true))))))) = eqb a b := by
    rw [Bool.eq_iff_iff, eqb_iff, GRow.eq_iff]; simp [Bool.and_eq_true]
  show bool (bif neg then !(decide (a.Id = b.Id) && (decide (a.N.Kind = b.N.Kind) && (decide (a.N.N = b.N.N) && (decide (a.N.T = b.N.T) && (decide (a.Name.Kind = b.Name.Kind) && (decide (a.Name.N = b.Name.N) && (decide (a.Name.T = b.Name.T) && true))))))) else (decide (a.Id = b.Id) && (decide (a.N.Kind = b.N.Kind) && (decide (a.N.N = b.N.N) && (decide (a.N.T = b.N.T) && (decide (a.Name.Kind = b.Name.Kind) && (decide (a.Name.N = b.Name.N) && (decide (a.Name.T = b.Name.T) && true)))))))) = _
  rw [e]

structure GStmt where
  Kind : Int
  Table : Int
  Row : GRow
  Column : Int
  Set : GExpr
  Where : GExpr
  Order : Int
  Down : Bool
def GStmt.av (x : GStmt) : AV := .agg [.d (.int .i64 x.Kind), .d (.int .i64 x.Table), .d (.int .i64 x.Row.Id), .d (.int .i64 x.Row.N.Kind), .d (.int .i64 x.Row.N.N), .d (.str x.Row.N.T), .d (.int .i64 x.Row.Name.Kind), .d (.int .i64 x.Row.Name.N), .d (.str x.Row.Name.T), .d (.int .i64 x.Column), .d (.sl 7 (x.Set.Nodes.map GExprNode.row)), .d (.sl 7 (x.Where.Nodes.map GExprNode.row)), .d (.int .i64 x.Order), .d (.bool x.Down)]
theorem GStmt.ext1 {a b : GStmt} (h0 : a.Kind = b.Kind) (h1 : a.Table = b.Table) (h2 : a.Row = b.Row) (h3 : a.Column = b.Column) (h4 : a.Set = b.Set) (h5 : a.Where = b.Where) (h6 : a.Order = b.Order) (h7 : a.Down = b.Down) : a = b := by cases a; cases b; simp_all
def GStmt.row (x : GStmt) : List D := [.int .i64 x.Kind, .int .i64 x.Table, .int .i64 x.Row.Id, .int .i64 x.Row.N.Kind, .int .i64 x.Row.N.N, .str x.Row.N.T, .int .i64 x.Row.Name.Kind, .int .i64 x.Row.Name.N, .str x.Row.Name.T, .int .i64 x.Column, .sl 7 (x.Set.Nodes.map GExprNode.row), .sl 7 (x.Where.Nodes.map GExprNode.row), .int .i64 x.Order, .bool x.Down]
def GStmt.wf (x : GStmt) : Prop := wfInt x.Kind ∧ wfInt x.Table ∧ GRow.wf x.Row ∧ wfInt x.Column ∧ GExpr.wf x.Set ∧ GExpr.wf x.Where ∧ wfInt x.Order ∧ (fun _ => True) x.Down
def GStmt.sz (x : GStmt) : Nat := GRow.sz x.Row + GExpr.sz x.Set + GExpr.sz x.Where
def GStmt.zero : GStmt := ⟨0, 0, GRow.zero, 0, GExpr.zero, GExpr.zero, 0, false⟩
theorem GStmt.dec {P : Program} {t : TypeId} {fs : Array Field} {f0 f1 f2 f3 f4 f5 f6 f7 : Field} (h : P.underlying t = some (.struct fs)) (hfs : fs.toList = [f0, f1, f2, f3, f4, f5, f6, f7]) (d0 : Dec P f0.type intRow wfInt) (d1 : Dec P f1.type intRow wfInt) (d2 : Dec P f2.type GRow.row GRow.wf) (d3 : Dec P f3.type intRow wfInt) (d4 : Dec P f4.type GExpr.row GExpr.wf) (d5 : Dec P f5.type GExpr.row GExpr.wf) (d6 : Dec P f6.type intRow wfInt) (d7 : Dec P f7.type boolRow (fun _ => True)) : Dec P t GStmt.row GStmt.wf := fun hc => by
  have g := hasC_struct h hc
  rw [hfs] at g
  obtain ⟨a0, b0, e0, c0, g⟩ := hasFs_cons g
  obtain ⟨x0, r0, w0⟩ := d0 c0
  obtain ⟨a1, b1, e1, c1, g⟩ := hasFs_cons g
  obtain ⟨x1, r1, w1⟩ := d1 c1
  obtain ⟨a2, b2, e2, c2, g⟩ := hasFs_cons g
  obtain ⟨x2, r2, w2⟩ := d2 c2
  obtain ⟨a3, b3, e3, c3, g⟩ := hasFs_cons g
  obtain ⟨x3, r3, w3⟩ := d3 c3
  obtain ⟨a4, b4, e4, c4, g⟩ := hasFs_cons g
  obtain ⟨x4, r4, w4⟩ := d4 c4
  obtain ⟨a5, b5, e5, c5, g⟩ := hasFs_cons g
  obtain ⟨x5, r5, w5⟩ := d5 c5
  obtain ⟨a6, b6, e6, c6, g⟩ := hasFs_cons g
  obtain ⟨x6, r6, w6⟩ := d6 c6
  obtain ⟨a7, b7, e7, c7, g⟩ := hasFs_cons g
  obtain ⟨x7, r7, w7⟩ := d7 c7
  have z := hasFs_nil g
  exact ⟨⟨x0, x1, x2, x3, x4, x5, x6, x7⟩, by rw [e0, r0, e1, r1, e2, r2, e3, r3, e4, r4, e5, r5, e6, r6, e7, r7, z]; rfl, ⟨w0, w1, w2, w3, w4, w5, w6, w7⟩⟩
abbrev GStmt.avO (e0 e1 : Nat) (x : GStmt) : AV := .agg [.d (.int .i64 x.Kind), .d (.int .i64 x.Table), .d (.int .i64 x.Row.Id), .d (.int .i64 x.Row.N.Kind), .d (.int .i64 x.Row.N.N), .d (.str x.Row.N.T), .d (.int .i64 x.Row.Name.Kind), .d (.int .i64 x.Row.Name.N), .d (.str x.Row.Name.T), .d (.int .i64 x.Column), .osl e0 7 0 x.Set.Nodes.length, .osl e1 7 0 x.Where.Nodes.length, .d (.int .i64 x.Order), .d (.bool x.Down)]
abbrev GStmt.hO (e0 e1 : Nat) (x : GStmt) : List (Nat × OB) := [(e0, .rows 7 (x.Set.Nodes.map GExprNode.row)), (e1, .rows 7 (x.Where.Nodes.map GExprNode.row))]
def GStmt.mkS (k : Nat) (x : GStmt) : GStmt := ⟨x.Kind, x.Table, ⟨x.Row.Id, ⟨x.Row.N.Kind, x.Row.N.N, x.Row.N.T⟩, ⟨x.Row.Name.Kind, x.Row.Name.N, x.Row.Name.T⟩⟩, x.Column, ⟨markL GExprNode.mk1 7 (k) x.Set.Nodes⟩, ⟨markL GExprNode.mk1 7 (k + 7 * x.Set.Nodes.length) x.Where.Nodes⟩, x.Order, x.Down⟩
def GStmt.mkN (k : Nat) (x : GStmt) : Nat := k + 7 * x.Set.Nodes.length + 7 * x.Where.Nodes.length

structure GAnswer where
  Rows : List GRow
  Count : Int
def GAnswer.av (x : GAnswer) : AV := .agg [.d (.sl 7 (x.Rows.map GRow.row)), .d (.int .i64 x.Count)]
theorem GAnswer.ext1 {a b : GAnswer} (h0 : a.Rows = b.Rows) (h1 : a.Count = b.Count) : a = b := by cases a; cases b; simp_all
def GAnswer.row (x : GAnswer) : List D := [.sl 7 (x.Rows.map GRow.row), .int .i64 x.Count]
def GAnswer.wf (x : GAnswer) : Prop := wfL GRow.wf x.Rows ∧ wfInt x.Count
def GAnswer.sz (x : GAnswer) : Nat := szL GRow.sz x.Rows
def GAnswer.zero : GAnswer := ⟨[], 0⟩
theorem GAnswer.dec {P : Program} {t : TypeId} {fs : Array Field} {f0 f1 : Field} (h : P.underlying t = some (.struct fs)) (hfs : fs.toList = [f0, f1]) (d0 : Dec P f0.type (fun xs => [.sl 7 (xs.map GRow.row)]) (wfL GRow.wf)) (d1 : Dec P f1.type intRow wfInt) : Dec P t GAnswer.row GAnswer.wf := fun hc => by
  have g := hasC_struct h hc
  rw [hfs] at g
  obtain ⟨a0, b0, e0, c0, g⟩ := hasFs_cons g
  obtain ⟨x0, r0, w0⟩ := d0 c0
  obtain ⟨a1, b1, e1, c1, g⟩ := hasFs_cons g
  obtain ⟨x1, r1, w1⟩ := d1 c1
  have z := hasFs_nil g
  exact ⟨⟨x0, x1⟩, by rw [e0, r0, e1, r1, z]; rfl, ⟨w0, w1⟩⟩
abbrev GAnswer.avO (e0 : Nat) (x : GAnswer) : AV := .agg [.osl e0 7 0 x.Rows.length, .d (.int .i64 x.Count)]
abbrev GAnswer.hO (e0 : Nat) (x : GAnswer) : List (Nat × OB) := [(e0, .rows 7 (x.Rows.map GRow.row))]
def GAnswer.mkS (k : Nat) (x : GAnswer) : GAnswer := ⟨markL GRow.mk1 7 (k) x.Rows, x.Count⟩
def GAnswer.mkN (k : Nat) (x : GAnswer) : Nat := k + 7 * x.Rows.length

structure GChange where
  Session : Int
  Table : Int
  Row : GRow
  Gone : Bool
def GChange.av (x : GChange) : AV := .agg [.d (.int .i64 x.Session), .d (.int .i64 x.Table), .d (.int .i64 x.Row.Id), .d (.int .i64 x.Row.N.Kind), .d (.int .i64 x.Row.N.N), .d (.str x.Row.N.T), .d (.int .i64 x.Row.Name.Kind), .d (.int .i64 x.Row.Name.N), .d (.str x.Row.Name.T), .d (.bool x.Gone)]
theorem GChange.ext1 {a b : GChange} (h0 : a.Session = b.Session) (h1 : a.Table = b.Table) (h2 : a.Row = b.Row) (h3 : a.Gone = b.Gone) : a = b := by cases a; cases b; simp_all
def GChange.row (x : GChange) : List D := [.int .i64 x.Session, .int .i64 x.Table, .int .i64 x.Row.Id, .int .i64 x.Row.N.Kind, .int .i64 x.Row.N.N, .str x.Row.N.T, .int .i64 x.Row.Name.Kind, .int .i64 x.Row.Name.N, .str x.Row.Name.T, .bool x.Gone]
def GChange.wf (x : GChange) : Prop := wfInt x.Session ∧ wfInt x.Table ∧ GRow.wf x.Row ∧ (fun _ => True) x.Gone
def GChange.sz (x : GChange) : Nat := GRow.sz x.Row
def GChange.zero : GChange := ⟨0, 0, GRow.zero, false⟩
theorem GChange.dec {P : Program} {t : TypeId} {fs : Array Field} {f0 f1 f2 f3 : Field} (h : P.underlying t = some (.struct fs)) (hfs : fs.toList = [f0, f1, f2, f3]) (d0 : Dec P f0.type intRow wfInt) (d1 : Dec P f1.type intRow wfInt) (d2 : Dec P f2.type GRow.row GRow.wf) (d3 : Dec P f3.type boolRow (fun _ => True)) : Dec P t GChange.row GChange.wf := fun hc => by
  have g := hasC_struct h hc
  rw [hfs] at g
  obtain ⟨a0, b0, e0, c0, g⟩ := hasFs_cons g
  obtain ⟨x0, r0, w0⟩ := d0 c0
  obtain ⟨a1, b1, e1, c1, g⟩ := hasFs_cons g
  obtain ⟨x1, r1, w1⟩ := d1 c1
  obtain ⟨a2, b2, e2, c2, g⟩ := hasFs_cons g
  obtain ⟨x2, r2, w2⟩ := d2 c2
  obtain ⟨a3, b3, e3, c3, g⟩ := hasFs_cons g
  obtain ⟨x3, r3, w3⟩ := d3 c3
  have z := hasFs_nil g
  exact ⟨⟨x0, x1, x2, x3⟩, by rw [e0, r0, e1, r1, e2, r2, e3, r3, z]; rfl, ⟨w0, w1, w2, w3⟩⟩
def GChange.mk1 (k : Nat) (x : GChange) : GChange := ⟨((k : Nat) : Int), ((k + 1 : Nat) : Int), ⟨((k + 2 : Nat) : Int), ⟨((k + 3 : Nat) : Int), ((k + 4 : Nat) : Int), mkT (k + 5)⟩, ⟨((k + 6 : Nat) : Int), ((k + 7 : Nat) : Int), mkT (k + 8)⟩⟩, (decide (((k + 9 : Nat) : Int) % 3 = 0))⟩
theorem GChange.eq_iff {a b : GChange} : a = b ↔ (a.Session = b.Session ∧ a.Table = b.Table ∧ a.Row.Id = b.Row.Id ∧ a.Row.N.Kind = b.Row.N.Kind ∧ a.Row.N.N = b.Row.N.N ∧ a.Row.N.T = b.Row.N.T ∧ a.Row.Name.Kind = b.Row.Name.Kind ∧ a.Row.Name.N = b.Row.Name.N ∧ a.Row.Name.T = b.Row.Name.T ∧ a.Gone = b.Gone) := by
  constructor
  · rintro rfl; exact ⟨rfl, rfl, rfl, rfl, rfl, rfl, rfl, rfl, rfl, rfl⟩
  · intro h; cases a; cases b; simp_all [GRow.eq_iff]
theorem GChange.q_eqs {C : Cx} {st : St} {neg : Bool} {x y : XA} {a b : GChange} (hx : evA st.sl x = some a.av) (hy : evA st.sl y = some b.av) : QStep C st (.eqs neg [0, 0, 0, 0, 0, 2, 0, 0, 2, 1] x y) (bool (bif neg then !eqb a b else eqb a b)) := by
  refine q_as (Go.AM.q_eqs hx hy rfl) ?_
  have e : (decide (a.Session = b.Session) && (decide (a.Table = b.Table) && (decide (a.Row.Id = b.Row.Id) && (decide (a.Row.N.Kind = b.Row.N.Kind) && (decide (a.Row.N.N = b.Row.N.N) && (decide (a.Row.N.T = b.Row.N.T) && (decide (a.Row.Name.Kind = b.Row.Name.Kind) && (decide (a.Row.Name.N = b.Row.Name.N) && (decide (a.Row.Name.T = b.Row.Name.T) && (decide (a.Gone = b.Gone) && true)))))))))) = eqb a b := by
    rw [Bool.eq_iff_iff, eqb_iff, GChange.eq_iff]; simp [Bool.and_eq_true]
  show bool (bif neg then !(decide (a.Session = b.Session) && (decide (a.Table = b.Table) && (decide (a.Row.Id = b.Row.Id) && (decide (a.Row.N.Kind = b.Row.N.Kind) && (decide (a.Row.N.N = b.Row.N.N) && (decide (a.Row.N.T = b.Row.N.T) && (decide (a.Row.Name.Kind = b.Row.Name.Kind) && (decide (a.Row.Name.N = b.Row.Name.N) && (decide (a.Row.Name.T = b.Row.Name.T) && (decide (a.Gone = b.Gone) && true)))))))))) else (decide (a.Session = b.Session) && (decide (a.Table = b.Table) && (decide (a.Row.Id = b.Row.Id) && (decide (a.Row.N.Kind = b.Row.N.Kind) && (decide (a.Row.N.N = b.Row.N.N) && (decide (a.Row.N.T = b.Row.N.T) && (decide (a.Row.Name.Kind = b.Row.Name.Kind) && (decide (a.Row.Name.N = b.Row.Name.N) && (decide (a.Row.Name.T = b.Row.Name.T) && (decide (a.Gone = b.Gone) && true))))))))))) = _
  rw [e]

end Go.AM

/- Plain laws: sources of choices. -/
namespace Go.AM
structure Src where
  code : Str
  pos : Int
  seed : Int
abbrev Src.box (s : Src) : OB := .box [.d (.sl 1 (s.code.map byteRow)), int s.pos, int s.seed]
abbrev Src.h (e : Nat) (s : Src) : List (Nat × OB) := [(e, s.box)]
structure Src.ok (s : Src) (n : Nat) : Prop where
  pos : 0 ≤ s.pos ∧ s.pos + n ≤ 1000000000
  seed : 0 ≤ s.seed ∧ s.seed < 2147483648
  len : s.code.length ≤ 1048576
theorem Src.ok.mono {s : Src} {n m : Nat} (h : s.ok n) (hm : m ≤ n) : s.ok m := ⟨by have := h.pos; omega, h.seed, h.len⟩
def srcOf (code : Str) : Src := ⟨code, 0, (code.length : Int) % 1000⟩
theorem srcOf_ok {code : Str} (h : code.length ≤ 1048576) : (srcOf code).ok 1000000000 := ⟨by simp [srcOf], by unfold srcOf; dsimp only; omega, h⟩
def byteF (s : Src) : Int × Src :=
  if s.pos + 1 ≤ s.code.length then ((s.code.getD s.pos.toNat 0).toNat, ⟨s.code, s.pos + 1, (s.seed * 31 + (s.code.getD s.pos.toNat 0).toNat + 7) % 2147483648⟩)
  else if 3000 < s.pos + 1 then (0, ⟨s.code, s.pos + 1, s.seed⟩)
  else ((s.seed * 1103515245 + 12345) % 2147483648 / 65536 % 256, ⟨s.code, s.pos + 1, (s.seed * 1103515245 + 12345) % 2147483648⟩)
theorem byteF_1 {s : Src} (h : s.pos + 1 ≤ s.code.length) : byteF s = (((s.code.getD s.pos.toNat 0).toNat : Int), ⟨s.code, s.pos + 1, (s.seed * 31 + (s.code.getD s.pos.toNat 0).toNat + 7) % 2147483648⟩) := by unfold byteF; rw [if_pos h]
theorem byteF_2 {s : Src} (h : ¬ s.pos + 1 ≤ s.code.length) (h1 : 3000 < s.pos + 1) : byteF s = (0, ⟨s.code, s.pos + 1, s.seed⟩) := by unfold byteF; rw [if_neg h, if_pos h1]
theorem byteF_3 {s : Src} (h : ¬ s.pos + 1 ≤ s.code.length) (h1 : ¬ 3000 < s.pos + 1) : byteF s = ((s.seed * 1103515245 + 12345) % 2147483648 / 65536 % 256, ⟨s.code, s.pos + 1, (s.seed * 1103515245 + 12345) % 2147483648⟩) := by unfold byteF; rw [if_neg h, if_neg h1]
theorem byteF_ok {s : Src} {n : Nat} (h : s.ok (n + 1)) : (byteF s).2.ok n ∧ 0 ≤ (byteF s).1 ∧ (byteF s).1 < 256 := by
  have h1 := h.pos
  have h2 := h.seed
  have h3 := h.len
  have h4 := (s.code.getD s.pos.toNat 0).toNat_lt
  unfold byteF
  split
  · exact ⟨⟨by dsimp only; omega, by dsimp only; omega, h3⟩, by dsimp only; omega, by dsimp only; omega⟩
  · split
    · exact ⟨⟨by dsimp only; omega, h2, h3⟩, by dsimp only; omega, by dsimp only; omega⟩
    · exact ⟨⟨by dsimp only; omega, by dsimp only; omega, h3⟩, by dsimp only; omega, by dsimp only; omega⟩
def nextF (s : Src) (n : Int) : Int × Src :=
  if n ≤ 1 then (0, s) else if n ≤ 256 then ((byteF s).1 % n, (byteF s).2)
  else (((byteF s).1 * 65536 + (byteF (byteF s).2).1 * 256 + (byteF (byteF (byteF s).2).2).1) % n, (byteF (byteF (byteF s).2).2).2)
theorem nextF_1 {s : Src} {n : Int} (h : n ≤ 1) : nextF s n = (0, s) := by unfold nextF; rw [if_pos h]
theorem nextF_2 {s : Src} {n : Int} (h : ¬ n ≤ 1) (h1 : n ≤ 256) : nextF s n = ((byteF s).1 % n, (byteF s).2) := by unfold nextF; rw [if_neg h, if_pos h1]
theorem nextF_3 {s : Src} {n : Int} (h : ¬ n ≤ 1) (h1 : ¬ n ≤ 256) : nextF s n = (((byteF s).1 * 65536 + (byteF (byteF s).2).1 * 256 + (byteF (byteF (byteF s).2).2).1) % n, (byteF (byteF (byteF s).2).2).2) := by unfold nextF; rw [if_neg h, if_neg h1]
theorem nextF_ok {s : Src} {n : Int} {k : Nat} (h : s.ok (k + 3)) : (nextF s n).2.ok k ∧ 0 ≤ (nextF s n).1 ∧ (1 ≤ n → (nextF s n).1 < n) := by
  unfold nextF
  split
  · exact ⟨h.mono (by omega), by dsimp only; omega, fun _ => by dsimp only; omega⟩
  · rename_i h1
    split
    · obtain ⟨h2, h3, h4⟩ := byteF_ok (n := k) (h.mono (by omega))
      exact ⟨h2, Int.emod_nonneg _ (by omega), fun _ => Int.emod_lt_of_pos _ (by omega)⟩
    · obtain ⟨h2, h3, h4⟩ := byteF_ok (n := k + 2) h
      obtain ⟨h5, h6, h7⟩ := byteF_ok (n := k + 1) h2
      obtain ⟨h8, h9, h10⟩ := byteF_ok (n := k) h5
      exact ⟨h8, Int.emod_nonneg _ (by omega), fun _ => Int.emod_lt_of_pos _ (by omega)⟩
def chanceF (s : Src) (n : Int) : Bool × Src := (decide ((nextF s n).1 = n - 1), (nextF s n).2)
theorem getD_at {l : Str} {i : Nat} (h : i < l.length) : l.getD i 0 = l[i] := by simp [List.getD, h]
/-- The i-th choice out of n that some bytes make. -/
def atF (more : Str) (i n : Int) : Int :=
  if n ≤ 1 then 0 else if more = [] then i * 7 % n else
  (((more.getD (i % more.length).toNat 0).toNat * 31 + (more.getD ((i + 1) % more.length).toNat 0).toNat : Int) + i / more.length) % n
theorem atF_bounds {more : Str} {i n : Int} (hn : 1 ≤ n) : 0 ≤ atF more i n ∧ atF more i n < n := by
  unfold atF
  split
  · omega
  · split
    · exact ⟨Int.emod_nonneg _ (by omega), Int.emod_lt_of_pos _ (by omega)⟩
    · exact ⟨Int.emod_nonneg _ (by omega), Int.emod_lt_of_pos _ (by omega)⟩
end Go.AM

/- Plain laws: values, rows, expressions that are right. -/
namespace Go.AM
def badCh (b : UInt8) : Bool := !inR (b.toNat : Int) 97 122
def isWord (s : Str) : Bool := !s.any badCh && decide ((s.length : Int) ≤ 10)
def valueOK (v : GValue) : Bool := if v.Kind = 0 then decide (v.N = 0) && decide (v.T = []) else if v.Kind = 1 then inR v.N (-1000000000) 1000000000 && decide (v.T = []) else decide (v.Kind = 2) && decide (v.N = 0) && isWord v.T
theorem valueOK_0 {v : GValue} (h : v.Kind = 0) : valueOK v = (decide (v.N = 0) && decide (v.T = [])) := by unfold valueOK; rw [if_pos h]
theorem valueOK_1 {v : GValue} (h : v.Kind = 1) : valueOK v = (inR v.N (-1000000000) 1000000000 && decide (v.T = [])) := by unfold valueOK; rw [if_neg (by omega), if_pos h]
theorem valueOK_2 {v : GValue} (h : ¬ v.Kind = 0) (h1 : ¬ v.Kind = 1) : valueOK v = (decide (v.Kind = 2) && decide (v.N = 0) && isWord v.T) := by unfold valueOK; rw [if_neg h, if_neg h1]
theorem eqb_val0 {v : GValue} (h : v.Kind = 0) : eqb v GValue.zero = (decide (v.N = 0) && decide (v.T = [])) := by
  rw [Bool.eq_iff_iff, eqb_iff, GValue.eq_iff]
  simp [GValue.zero, h]
def rowOK (r : GRow) : Bool := (((inR r.Id 0 1000 && valueOK r.N) && valueOK r.Name) && !decide (r.N.Kind = 2)) && !decide (r.Name.Kind = 1)
theorem rowOK_i {r : GRow} : ((((inR r.Id 0 1000 && valueOK r.N) && !decide (r.N.Kind = 2)) && valueOK r.Name) && !decide (r.Name.Kind = 1)) = rowOK r := by
  unfold rowOK
  cases inR r.Id 0 1000 <;> cases valueOK r.N <;> cases valueOK r.Name <;> cases decide (r.N.Kind = 2) <;> rfl
end Go.AM

/- Plain laws: expressions that are right; what a walk from the end finds. -/
namespace Go.AM
def zeroV (v : GValue) : Bool := decide (v.Kind = 0) && (decide (v.N = 0) && (decide (v.T = []) && true))
def mxI (a b : Int) : Int := if b > a then b else a
theorem mxI_b {a b n : Int} (h1 : 0 ≤ a ∧ a ≤ n) (h2 : 0 ≤ b ∧ b ≤ n) : 0 ≤ mxI a b ∧ mxI a b ≤ n := by unfold mxI; split <;> omega
abbrev W3 := Int × Int × Bool
def nodeW (rec : Int → W3) (i : Int) (x : GExprNode) : W3 :=
  if x.Op = 1 then (i, 1, ((decide (x.A = 0) && decide (x.B = 0)) && decide (x.Column = 0)) && valueOK x.V)
  else if x.Op = 2 then (i, 1, ((decide (x.A = 0) && decide (x.B = 0)) && inR x.Column 0 2) && zeroV x.V)
  else if inR x.Op 3 5 = true then ((rec (i - 1)).1, (rec (i - 1)).2.1 + 1, ((((rec (i - 1)).2.2 && decide (x.A = i - 1)) && decide (x.B = 0)) && decide (x.Column = 0)) && zeroV x.V)
  else if inR x.Op 6 13 = true then
    (if (rec (i - 1)).2.2 = false then (0, 0, false)
     else ((rec ((rec (i - 1)).1 - 1)).1, mxI (rec ((rec (i - 1)).1 - 1)).2.1 (rec (i - 1)).2.1 + 1,
       ((((rec ((rec (i - 1)).1 - 1)).2.2 && decide (x.A = (rec (i - 1)).1 - 1)) && decide (x.B = i - 1)) && decide (x.Column = 0)) && zeroV x.V))
  else (0, 0, false)
def walkF (ns : List GExprNode) : Nat → Int → W3
  | 0, _ => (0, 0, false)
  | f + 1, i => if i < 0 then (0, 0, false) else match ns[i.toNat]? with
    | none => (0, 0, false)
    | some x => nodeW (walkF ns f) i x
section
variable {ns : List GExprNode} {f : Nat} {i : Int} {j : Nat} {x : GExprNode} {rec : Int → W3}
theorem nodeW_1 (h : x.Op = 1) : nodeW rec i x = (i, 1, ((decide (x.A = 0) && decide (x.B = 0)) && decide (x.Column = 0)) && valueOK x.V) := by unfold nodeW; rw [if_pos h]
theorem nodeW_2 (h : ¬ x.Op = 1) (h1 : x.Op = 2) : nodeW rec i x = (i, 1, ((decide (x.A = 0) && decide (x.B = 0)) && inR x.Column 0 2) && zeroV x.V) := by unfold nodeW; rw [if_neg h, if_pos h1]
theorem nodeW_3 (h : ¬ x.Op = 1) (h1 : ¬ x.Op = 2) (h2 : inR x.Op 3 5 = true) : nodeW rec i x = ((rec (i - 1)).1, (rec (i - 1)).2.1 + 1, ((((rec (i - 1)).2.2 && decide (x.A = i - 1)) && decide (x.B = 0)) && decide (x.Column = 0)) && zeroV x.V) := by
  unfold nodeW; rw [if_neg h, if_neg h1, if_pos h2]
theorem nodeW_4 (h : ¬ x.Op = 1) (h1 : ¬ x.Op = 2) (h2 : inR x.Op 3 5 = false) (h3 : inR x.Op 6 13 = true) (h4 : (rec (i - 1)).2.2 = false) : nodeW rec i x = (0, 0, false) := by
  unfold nodeW; rw [if_neg h, if_neg h1, if_neg (by rw [h2]; simp), if_pos h3, if_pos h4]
theorem nodeW_5 (h : ¬ x.Op = 1) (h1 : ¬ x.Op = 2) (h2 : inR x.Op 3 5 = false) (h3 : inR x.Op 6 13 = true) (h4 : (rec (i - 1)).2.2 = true) : nodeW rec i x = ((rec ((rec (i - 1)).1 - 1)).1, mxI (rec ((rec (i - 1)).1 - 1)).2.1 (rec (i - 1)).2.1 + 1,
       ((((rec ((rec (i - 1)).1 - 1)).2.2 && decide (x.A = (rec (i - 1)).1 - 1)) && decide (x.B = i - 1)) && decide (x.Column = 0)) && zeroV x.V) := by
  unfold nodeW; rw [if_neg h, if_neg h1, if_neg (by rw [h2]; simp), if_pos h3, if_neg (by rw [h4]; simp)]
theorem nodeW_6 (h : ¬ x.Op = 1) (h1 : ¬ x.Op = 2) (h2 : inR x.Op 3 5 = false) (h3 : inR x.Op 6 13 = false) : nodeW rec i x = (0, 0, false) := by
  unfold nodeW; rw [if_neg h, if_neg h1, if_neg (by rw [h2]; simp), if_neg (by rw [h3]; simp)]
theorem walkF_neg (h : i < 0) : walkF ns f i = (0, 0, false) := by cases f with | zero => rfl | succ f => rw [walkF, if_pos h]
theorem walkF_at (h : j < ns.length) : walkF ns (f + 1) (j : Int) = nodeW (walkF ns f) j ns[j] := by
  rw [walkF, if_neg (by omega), show ((j : Int)).toNat = j from by omega, List.getElem?_eq_getElem h]
theorem nodeW_b {n : Int} (hi : 0 ≤ i) (h : ∀ k, 0 ≤ (rec k).1 ∧ ((rec k).1 ≤ k ∨ (rec k).1 = 0) ∧ 0 ≤ (rec k).2.1 ∧ (rec k).2.1 ≤ n) : 0 ≤ (nodeW rec i x).1 ∧ ((nodeW rec i x).1 ≤ i ∨ (nodeW rec i x).1 = 0) ∧ 0 ≤ (nodeW rec i x).2.1 ∧ (nodeW rec i x).2.1 ≤ n + 1 := by
  have a := h (i - 1)
  have b := h ((rec (i - 1)).1 - 1)
  have c := mxI_b (n := n) (a := (rec ((rec (i - 1)).1 - 1)).2.1) (b := (rec (i - 1)).2.1) ⟨b.2.2.1, b.2.2.2⟩ ⟨a.2.2.1, a.2.2.2⟩
  unfold nodeW
  split
  · dsimp only; omega
  · split
    · dsimp only; omega
    · split
      · dsimp only; omega
      · split
        · split
          · dsimp only; omega
          · dsimp only; omega
        · dsimp only; omega
theorem walkF_b : ∀ {f : Nat} {i : Int}, 0 ≤ (walkF ns f i).1 ∧ ((walkF ns f i).1 ≤ i ∨ (walkF ns f i).1 = 0) ∧ 0 ≤ (walkF ns f i).2.1 ∧ (walkF ns f i).2.1 ≤ f
  | 0, i => by simp [walkF]
  | f + 1, i => by
    rw [walkF]
    split
    · simp; omega
    · split
      · simp; omega
      · rename_i x _
        have := @nodeW_b i x (walkF ns f) f (by omega) (fun k => walkF_b)
        omega
end
def exprOK (e : GExpr) : Bool := if inR (e.Nodes.length : Int) 1 40 = false then false else
  ((walkF e.Nodes (e.Nodes.length + 1) ((e.Nodes.length : Int) - 1)).2.2 && decide ((walkF e.Nodes (e.Nodes.length + 1) ((e.Nodes.length : Int) - 1)).1 = 0)) && decide ((walkF e.Nodes (e.Nodes.length + 1) ((e.Nodes.length : Int) - 1)).2.1 ≤ 12)
theorem exprOK_0 {e : GExpr} (h : inR (e.Nodes.length : Int) 1 40 = false) : exprOK e = false := by unfold exprOK; rw [if_pos h]
theorem exprOK_1 {e : GExpr} (h : inR (e.Nodes.length : Int) 1 40 = true) : exprOK e = (((walkF e.Nodes (e.Nodes.length + 1) ((e.Nodes.length : Int) - 1)).2.2 && decide ((walkF e.Nodes (e.Nodes.length + 1) ((e.Nodes.length : Int) - 1)).1 = 0)) && decide ((walkF e.Nodes (e.Nodes.length + 1) ((e.Nodes.length : Int) - 1)).2.1 ≤ 12)) := by
  unfold exprOK; rw [if_neg (by rw [h]; simp)]
theorem inR_iff {n lo hi : Int} : inR n lo hi = true ↔ lo ≤ n ∧ n ≤ hi := by unfold inR; simp
end Go.AM

/- Plain laws: the walk from the end and the stack find the same. -/
namespace Go.AM
abbrev IDp := Int × Int
def prow (p : IDp) : List D := [.int .i64 p.1, .int .i64 p.2]
def popF (S : List IDp) (a : Int) : Int × Bool × List IDp := match S.getLast? with
  | none => (0, false, S)
  | some p => if p.1 = a then (p.2, true, S.dropLast) else (0, false, S)
def okD (S : List IDp) (x : GExprNode) : Bool × Int × List IDp :=
  if x.Op = 1 then (((decide (x.A = 0) && decide (x.B = 0)) && decide (x.Column = 0)) && valueOK x.V, 0, S)
  else if x.Op = 2 then (((decide (x.A = 0) && decide (x.B = 0)) && inR x.Column 0 2) && zeroV x.V, 0, S)
  else if inR x.Op 3 5 = true then ((((popF S x.A).2.1 && decide (x.B = 0)) && decide (x.Column = 0)) && zeroV x.V, (popF S x.A).1, (popF S x.A).2.2)
  else if inR x.Op 6 13 = true then
    ((((popF S x.B).2.1 && (popF (popF S x.B).2.2 x.A).2.1) && decide (x.Column = 0)) && zeroV x.V, mxI (popF (popF S x.B).2.2 x.A).1 (popF S x.B).1, (popF (popF S x.B).2.2 x.A).2.2)
  else (false, 0, S)
def stepD (S : List IDp) (i : Int) (x : GExprNode) : Option (List IDp) := if (okD S x).1 = false then none else some ((okD S x).2.2 ++ [(i, (okD S x).2.1 + 1)])
def scanD (ns : List GExprNode) : Nat → Option (List IDp)
  | 0 => some []
  | k + 1 => match scanD ns k with
    | none => none
    | some S => match ns[k]? with
      | none => none
      | some x => stepD S k x
def depthF (ns : List GExprNode) : Int := match scanD ns ns.length with
  | none => 0
  | some S => if S.length = 1 then (S.getD 0 (0, 0)).2 else 0
theorem popF_top {S : List IDp} {p : IDp} : popF (S ++ [p]) p.1 = (p.2, true, S) := by unfold popF; simp
theorem popF_ok {S : List IDp} {a : Int} (h : (popF S a).2.1 = true) : ∃ S0 d, S = S0 ++ [(a, d)] := by
  rcases List.eq_nil_or_concat S with rfl | ⟨S0, p, rfl⟩
  · simp [popF] at h
  · unfold popF at h
    simp only [List.concat_eq_append, List.getLast?_append, List.getLast?_singleton, Option.some_or] at h
    by_cases hp : p.1 = a
    · exact ⟨S0, p.2, by rw [List.concat_eq_append, ← hp]⟩
    · rw [if_neg hp] at h; cases h
section
variable {ns : List GExprNode}
theorem nodeW_congr {r r' : Int → W3} {i : Int} {x : GExprNode} (h : ∀ k, k < i → r k = r' k) (hb : (r (i - 1)).1 ≤ i - 1 ∨ (r (i - 1)).1 = 0) (hi : 0 ≤ i) : nodeW r i x = nodeW r' i x := by
  unfold nodeW
  rw [← h (i - 1) (by omega), ← h ((r (i - 1)).1 - 1) (by omega)]
theorem walkF_fuel : ∀ {f f' : Nat} {i : Int}, i + 1 < f → i + 1 < f' → walkF ns f i = walkF ns f' i
  | 0, f', i, h1, h2 => by rw [walkF_neg (by omega), walkF_neg (by omega)]
  | f, 0, i, h1, h2 => by rw [walkF_neg (by omega), walkF_neg (by omega)]
  | f + 1, f' + 1, i, h1, h2 => by
    by_cases hi : i < 0
    · rw [walkF_neg hi, walkF_neg hi]
    · rw [walkF, walkF, if_neg hi, if_neg hi]
      split
      · rfl
      · exact nodeW_congr (fun k hk => walkF_fuel (by omega) (by omega)) walkF_b.2.1 (by omega)
/-- The walk, with enough steps. -/
def T (ns : List GExprNode) (i : Int) : W3 := walkF ns (i + 2).toNat i
theorem T_of {f : Nat} {i : Int} (h : i + 1 < f) (hi : -1 ≤ i) : walkF ns f i = T ns i := walkF_fuel h (by omega)
theorem T_neg {i : Int} (h : i < 0) : T ns i = (0, 0, false) := walkF_neg h
theorem T_at {j : Nat} (h : j < ns.length) : T ns j = nodeW (T ns) j ns[j] := by
  unfold T
  rw [show ((j : Int) + 2).toNat = (j + 1) + 1 from by omega, walkF_at h]
  refine nodeW_congr (fun k hk => ?_) walkF_b.2.1 (by omega)
  by_cases hk0 : k < 0
  · rw [walkF_neg hk0]; exact (T_neg hk0).symm
  · exact T_of (by omega) (by omega)
theorem T_b {i : Int} : 0 ≤ (T ns i).1 ∧ ((T ns i).1 ≤ i ∨ (T ns i).1 = 0) := ⟨walkF_b.1, walkF_b.2.1⟩
theorem T_d : ∀ {f : Nat} {i : Int}, (walkF ns f i).2.2 = true → 1 ≤ (walkF ns f i).2.1
  | 0, i, h => by simp [walkF] at h
  | f + 1, i, h => by
    rw [walkF] at h ⊢
    split at h
    · cases h
    · rename_i hi
      rw [if_neg hi]
      split at h
      · cases h
      · rename_i x hx
        have b1 := @walkF_b ns f (i - 1)
        have b2 := @walkF_b ns f ((walkF ns f (i - 1)).1 - 1)
        have c := mxI_b (n := f) (a := (walkF ns f ((walkF ns f (i - 1)).1 - 1)).2.1) (b := (walkF ns f (i - 1)).2.1) ⟨b2.2.2.1, b2.2.2.2⟩ ⟨b1.2.2.1, b1.2.2.2⟩
        unfold nodeW at h ⊢
        split
        · simp
        · split
          · simp
          · split
            · dsimp only; omega
            · split
              · split
                · rename_i h1 h2 h3 h4 h5
                  rw [if_neg h1, if_neg h2, if_neg h3, if_pos h4, if_pos h5] at h; cases h
                · dsimp only; omega
              · rename_i h1 h2 h3 h4
                rw [if_neg h1, if_neg h2, if_neg h3, if_neg h4] at h; cases h
/-- What stands on the stack: trees side by side. -/
inductive Segs (ns : List GExprNode) : List IDp → Nat → Prop
  | nil : Segs ns [] 0
  | snoc {S : List IDp} {a i : Nat} {d : Int} : Segs ns S a → T ns i = ((a : Int), d, true) → Segs ns (S ++ [((i : Int), d)]) (i + 1)
theorem Segs.zero {S : List IDp} (h : Segs ns S 0) : S = [] := by cases h; rfl
theorem Segs.top {S : List IDp} {k : Nat} (h : Segs ns S (k + 1)) : ∃ S0 a d, S = S0 ++ [((k : Int), d)] ∧ Segs ns S0 a ∧ T ns k = ((a : Int), d, true) := by
  cases h with
  | snoc h1 h2 => exact ⟨_, _, _, rfl, h1, h2⟩
theorem Segs.none {k : Nat} (h : Segs ns [] k) : k = 0 := by
  cases k with
  | zero => rfl
  | succ k => obtain ⟨S0, a, d, e, _⟩ := h.top; exact absurd e (by simp)
theorem Segs.concat {S0 : List IDp} {p : IDp} {k : Nat} (h : Segs ns (S0 ++ [p]) k) : ∃ i a : Nat, k = i + 1 ∧ p.1 = i ∧ Segs ns S0 a ∧ T ns i = ((a : Int), p.2, true) := by
  cases k with
  | zero => exact absurd h.zero (by simp)
  | succ k =>
    obtain ⟨S1, a, d, e, h1, h2⟩ := h.top
    have e2 := List.append_inj' e rfl
    simp only [List.cons.injEq, and_true] at e2
    obtain ⟨rfl, rfl⟩ := e2
    exact ⟨k, a, rfl, rfl, h1, h2⟩
theorem step_sound {S S' : List IDp} {k : Nat} (hk : k < ns.length) (h : Segs ns S k) (hs : stepD S k ns[k] = some S') : Segs ns S' (k + 1) := by
  unfold stepD at hs
  split at hs
  · cases hs
  · rename_i ho
    have ho : (okD S ns[k]).1 = true := by cases hh : (okD S ns[k]).1 with | true => rfl | false => exact absurd hh ho
    simp only [Option.some.injEq] at hs
    subst hs
    have ht := T_at (ns := ns) hk
    unfold okD at ho ⊢
    split
    · rename_i h1
      rw [if_pos h1] at ho
      dsimp only at ho
      rw [nodeW_1 h1, ho] at ht
      exact .snoc h ht
    · rename_i h1
      rw [if_neg h1] at ho
      split
      · rename_i h2
        rw [if_pos h2] at ho
        dsimp only at ho
        rw [nodeW_2 h1 h2, ho] at ht
        exact .snoc h ht
      · rename_i h2
        rw [if_neg h2] at ho
        split
        · rename_i h3
          rw [if_pos h3] at ho
          dsimp only at ho ⊢
          simp only [Bool.and_eq_true, decide_eq_true_eq] at ho
          obtain ⟨⟨⟨o1, o2⟩, o3⟩, o4⟩ := ho
          obtain ⟨S0, d, rfl⟩ := popF_ok o1
          obtain ⟨i, a, rfl, e1, g1, g2⟩ := h.concat
          have hA : ns[i + 1].A = i := e1
          rw [nodeW_3 h1 h2 h3, show (((i + 1 : Nat) : Int) - 1) = i from by omega, g2] at ht
          rw [show popF (S0 ++ [(ns[i + 1].A, d)]) ns[i + 1].A = (d, true, S0) from popF_top]
          simp only [hA, o2, o3, o4, decide_true, Bool.and_true] at ht
          exact .snoc g1 ht
        · rename_i h3
          have h3 : inR ns[k].Op 3 5 = false := by cases hh : inR ns[k].Op 3 5 with | false => rfl | true => exact absurd hh h3
          rw [if_neg (by rw [h3]; simp)] at ho
          split
          · rename_i h4
            rw [if_pos h4] at ho
            dsimp only at ho ⊢
            simp only [Bool.and_eq_true, decide_eq_true_eq] at ho
            obtain ⟨⟨⟨o1, o5⟩, o3⟩, o4⟩ := ho
            obtain ⟨S0, d, rfl⟩ := popF_ok o1
            obtain ⟨i, a, rfl, e1, g1, g2⟩ := h.concat
            have hB : ns[i + 1].B = i := e1
            rw [show popF (S0 ++ [(ns[i + 1].B, d)]) ns[i + 1].B = (d, true, S0) from popF_top] at o5 ⊢
            dsimp only at o5 ⊢
            obtain ⟨S1, d2, rfl⟩ := popF_ok o5
            obtain ⟨i2, a2, rfl, e2, g3, g4⟩ := g1.concat
            have hA : ns[i + 1].A = i2 := e2
            rw [show popF (S1 ++ [(ns[i + 1].A, d2)]) ns[i + 1].A = (d2, true, S1) from popF_top]
            rw [nodeW_5 h1 h2 h3 h4 (by rw [show (((i + 1 : Nat) : Int) - 1) = i from by omega, g2])] at ht
            rw [show (((i + 1 : Nat) : Int) - 1) = i from by omega, g2] at ht
            dsimp only at ht
            rw [show (((i2 + 1 : Nat) : Int) - 1) = i2 from by omega, g4] at ht
            simp only [hA, hB, o3, o4, decide_true, Bool.and_true] at ht
            exact .snoc g3 ht
          · rename_i h4
            rw [if_neg h4] at ho; cases ho
theorem step_full {S : List IDp} {k : Nat} (hk : k < ns.length) (h : Segs ns S k) (ht : (T ns k).2.2 = true) : ∃ S', stepD S k ns[k] = some S' := by
  have key : (okD S ns[k]).1 = true := by
    rw [T_at hk] at ht
    unfold okD
    split
    · rename_i h1; rw [nodeW_1 h1] at ht; exact ht
    · rename_i h1
      split
      · rename_i h2; rw [nodeW_2 h1 h2] at ht; exact ht
      · rename_i h2
        split
        · rename_i h3
          rw [nodeW_3 h1 h2 h3] at ht
          simp only [Bool.and_eq_true, decide_eq_true_eq] at ht ⊢
          obtain ⟨⟨⟨⟨o1, o0⟩, o2⟩, o3⟩, o4⟩ := ht
          cases k with
          | zero => rw [T_neg (by omega)] at o1; cases o1
          | succ k =>
            obtain ⟨S0, a, d, rfl, g1, g2⟩ := h.top
            have : ns[k + 1].A = k := by omega
            rw [this, show popF (S0 ++ [((k : Int), d)]) (k : Int) = (d, true, S0) from popF_top]
            exact ⟨⟨⟨rfl, o2⟩, o3⟩, o4⟩
        · rename_i h3
          have h3 : inR ns[k].Op 3 5 = false := by cases hh : inR ns[k].Op 3 5 with | false => rfl | true => exact absurd hh h3
          split
          · rename_i h4
            cases hr : (T ns ((k : Int) - 1)).2.2 with
            | false => rw [nodeW_4 h1 h2 h3 h4 hr] at ht; cases ht
            | true =>
              rw [nodeW_5 h1 h2 h3 h4 hr] at ht
              simp only [Bool.and_eq_true, decide_eq_true_eq] at ht ⊢
              obtain ⟨⟨⟨⟨o1, o0⟩, o2⟩, o3⟩, o4⟩ := ht
              cases k with
              | zero => rw [T_neg (by omega)] at hr; cases hr
              | succ k =>
                obtain ⟨S0, a, d, rfl, g1, g2⟩ := h.top
                rw [show (((k + 1 : Nat) : Int) - 1) = k from by omega, g2] at o0 o1
                dsimp only at o0 o1
                cases a with
                | zero => rw [T_neg (by omega)] at o1; cases o1
                | succ a =>
                  obtain ⟨S1, a2, d2, rfl, g3, g4⟩ := g1.top
                  have hB : ns[k + 1].B = k := by omega
                  have hA : ns[k + 1].A = a := by omega
                  rw [hA, hB, show popF (S1 ++ [((a : Int), d2)] ++ [((k : Int), d)]) (k : Int) = (d, true, S1 ++ [((a : Int), d2)]) from popF_top]
                  dsimp only
                  rw [show popF (S1 ++ [((a : Int), d2)]) (a : Int) = (d2, true, S1) from popF_top]
                  exact ⟨⟨⟨rfl, rfl⟩, o3⟩, o4⟩
          · rename_i h4
            have h4 : inR ns[k].Op 6 13 = false := by cases hh : inR ns[k].Op 6 13 with | false => rfl | true => exact absurd hh h4
            rw [nodeW_6 h1 h2 h3 h4] at ht; cases ht
  unfold stepD
  rw [if_neg (by rw [key]; simp)]
  exact ⟨_, rfl⟩
theorem scan_sound : ∀ {k : Nat} {S : List IDp}, k ≤ ns.length → scanD ns k = some S → Segs ns S k
  | 0, S, _, h => by simp only [scanD, Option.some.injEq] at h; subst h; exact .nil
  | k + 1, S, hk, h => by
    rw [scanD] at h
    split at h
    · cases h
    · rename_i S0 h0
      rw [List.getElem?_eq_getElem (by omega)] at h
      exact step_sound (by omega) (scan_sound (by omega) h0) h
theorem scan_full : ∀ {k : Nat}, k ≤ ns.length → (∀ j : Nat, j < k → (T ns j).2.2 = true) → ∃ S, scanD ns k = some S
  | 0, _, _ => ⟨[], rfl⟩
  | k + 1, hk, h => by
    obtain ⟨S, hS⟩ := scan_full (k := k) (by omega) (fun j hj => h j (by omega))
    obtain ⟨S', h'⟩ := step_full (by omega) (scan_sound (by omega) hS) (h k (by omega))
    exact ⟨S', by rw [scanD, hS, List.getElem?_eq_getElem (by omega)]; exact h'⟩
/-- All that a tree spans is right. -/
theorem T_span : ∀ (n : Nat) (i : Nat), i < n → i < ns.length → (T ns i).2.2 = true → ∀ j : Nat, (T ns i).1 ≤ j → j ≤ i → (T ns j).2.2 = true
  | 0, i, h, _, _, _, _, _ => by omega
  | n + 1, i, hn, hi, ht, j, h1, h2 => by
    by_cases hji : j = i
    · subst hji; exact ht
    · have ht0 := ht
      rw [T_at hi] at ht h1
      by_cases o1 : ns[i].Op = 1
      · rw [nodeW_1 o1] at h1; dsimp only at h1; omega
      · by_cases o2 : ns[i].Op = 2
        · rw [nodeW_2 o1 o2] at h1; dsimp only at h1; omega
        · cases o3 : inR ns[i].Op 3 5 with
          | true =>
            rw [nodeW_3 o1 o2 o3] at h1 ht
            simp only [Bool.and_eq_true] at ht
            dsimp only at h1
            rw [show ((i : Int) - 1) = ((i - 1 : Nat) : Int) from by omega] at h1 ht
            exact T_span n (i - 1) (by omega) (by omega) ht.1.1.1.1 j h1 (by omega)
          | false =>
            cases o4 : inR ns[i].Op 6 13 with
            | false => rw [nodeW_6 o1 o2 o3 o4] at ht; cases ht
            | true =>
              cases o5 : (T ns ((i : Int) - 1)).2.2 with
              | false => rw [nodeW_4 o1 o2 o3 o4 o5] at ht; cases ht
              | true =>
                rw [nodeW_5 o1 o2 o3 o4 o5] at h1 ht
                simp only [Bool.and_eq_true] at ht
                dsimp only at h1
                have b := @T_b ns ((i : Int) - 1)
                rw [show ((i : Int) - 1) = ((i - 1 : Nat) : Int) from by omega] at h1 ht o5 b
                by_cases hj : (T ns ((i - 1 : Nat) : Int)).1 ≤ j
                · exact T_span n (i - 1) (by omega) (by omega) o5 j hj (by omega)
                · have ho := ht.1.1.1.1
                  have hp : 0 ≤ (T ns ((i - 1 : Nat) : Int)).1 - 1 := by omega
                  obtain ⟨m, hm⟩ : ∃ m : Nat, (T ns ((i - 1 : Nat) : Int)).1 - 1 = (m : Int) := ⟨((T ns ((i - 1 : Nat) : Int)).1 - 1).toNat, by omega⟩
                  rw [hm] at h1 ho
                  exact T_span n m (by omega) (by omega) ho j h1 (by omega)
theorem depth_ok (hl : 1 ≤ ns.length) : inR (depthF ns) 1 12 = (((T ns ((ns.length : Int) - 1)).2.2 && decide ((T ns ((ns.length : Int) - 1)).1 = 0)) && decide ((T ns ((ns.length : Int) - 1)).2.1 ≤ 12)) := by
  rw [Bool.eq_iff_iff, inR_iff]
  simp only [Bool.and_eq_true, decide_eq_true_eq]
  obtain ⟨m, hm⟩ : ∃ m, ns.length = m + 1 := ⟨ns.length - 1, by omega⟩
  have hi : ((ns.length : Int) - 1) = (m : Int) := by omega
  rw [hi]
  constructor
  · intro h
    unfold depthF at h
    split at h
    · omega
    · rename_i S hS
      have g := scan_sound (Nat.le_refl _) hS
      rw [hm] at g
      obtain ⟨S0, a, d, rfl, g1, g2⟩ := g.top
      split at h
      · rename_i hl1
        have : S0 = [] := List.eq_nil_of_length_eq_zero (by simp only [List.length_append, List.length_singleton] at hl1; omega)
        subst this
        have ha : a = 0 := g1.none
        subst ha
        rw [g2]
        simp at h
        exact ⟨⟨rfl, rfl⟩, h.2⟩
      · omega
  · rintro ⟨⟨h1, h2⟩, h3⟩
    obtain ⟨S, hS⟩ := scan_full (ns := ns) (Nat.le_refl _) (fun j hj => T_span (m + 1) m (by omega) (by omega) h1 j (by omega) (by omega))
    have g := scan_sound (Nat.le_refl _) hS
    rw [hm] at g
    obtain ⟨S0, a, d, rfl, g1, g2⟩ := g.top
    have ha : a = 0 := by rw [g2] at h2; dsimp only at h2; omega
    subst ha
    have := g1.zero
    subst this
    unfold depthF
    rw [hS]
    have hd := T_d (ns := ns) h1
    change 1 ≤ (T ns m).2.1 at hd
    rw [g2] at hd h3
    simp
    exact ⟨hd, h3⟩
theorem exprOK_i {e : GExpr} : (inR (e.Nodes.length : Int) 1 40 && inR (depthF e.Nodes) 1 12) = exprOK e := by
  cases h : inR (e.Nodes.length : Int) 1 40 with
  | false => rw [exprOK_0 h]; rfl
  | true =>
    have := inR_iff.1 h
    rw [exprOK_1 h, Bool.true_and, depth_ok (by omega), T_of (by omega) (by omega)]
end
end Go.AM

/- Plain laws: the stack of a scan, as it lies; statements that are right. -/
namespace Go.AM
theorem popF_no {S : List IDp} {a : Int} (h : (S.length : Int) - 1 < 0 ∨ ¬ (S.getD (S.length - 1) (0, 0)).1 = a) : popF S a = (0, false, S) := by
  rcases List.eq_nil_or_concat S with rfl | ⟨S0, p, rfl⟩
  · rfl
  · rw [List.concat_eq_append] at h ⊢
    unfold popF
    simp only [List.length_append, List.length_singleton] at h
    rcases h with h | h
    · omega
    · have : ¬ p.1 = a := by simpa [List.getD] using h
      simp [this]
theorem popF_yes {S : List IDp} {a : Int} (h : ¬ (S.length : Int) - 1 < 0) (h1 : (S.getD (S.length - 1) (0, 0)).1 = a) : popF S a = ((S.getD (S.length - 1) (0, 0)).2, true, S.dropLast) := by
  rcases List.eq_nil_or_concat S with rfl | ⟨S0, p, rfl⟩
  · simp at h
  · rw [List.concat_eq_append] at h h1 ⊢
    have e : (S0 ++ [p]).getD ((S0 ++ [p]).length - 1) (0, 0) = p := by simp [List.getD]
    rw [e] at h1 ⊢
    unfold popF
    simp [h1]
theorem top_row {S : List IDp} {rs : List (List D)} (hrs : rs.take S.length = S.map prow) (h : ¬ (S.length : Int) - 1 < 0) : rs[((S.length : Int) - 1).toNat]? = some (prow (S.getD (S.length - 1) (0, 0))) := by
  have e : ((S.length : Int) - 1).toNat = S.length - 1 := by omega
  have h1 : (rs.take S.length)[S.length - 1]? = (S.map prow)[S.length - 1]? := by rw [hrs]
  rw [List.getElem?_take, if_pos (by omega), List.getElem?_map, List.getElem?_eq_getElem (by omega : S.length - 1 < S.length)] at h1
  rw [e, h1]
  simp [List.getD, show S.length - 1 < S.length from by omega]
theorem popF_len {S : List IDp} {a : Int} : (popF S a).2.2.length ≤ S.length := by
  unfold popF; split
  · exact Nat.le_refl _
  · split
    · dsimp only; rw [List.length_dropLast]; omega
    · exact Nat.le_refl _
theorem popF_rs {S : List IDp} {a : Int} {rs : List (List D)} (hrs : rs.take S.length = S.map prow) : rs.take (popF S a).2.2.length = (popF S a).2.2.map prow := by
  unfold popF; split
  · exact hrs
  · split
    · dsimp only
      have : (rs.take S.length).take S.dropLast.length = (S.map prow).take S.dropLast.length := by rw [hrs]
      rw [List.take_take, List.length_dropLast, Nat.min_eq_left (by omega), ← List.map_take] at this
      rw [List.length_dropLast, this, List.dropLast_eq_take]
    · exact hrs
section
variable {S : List IDp} {x : GExprNode}
theorem okD_1 (h : x.Op = 1) : okD S x = (((decide (x.A = 0) && decide (x.B = 0)) && decide (x.Column = 0)) && valueOK x.V, 0, S) := by unfold okD; rw [if_pos h]
theorem okD_2 (h : ¬ x.Op = 1) (h1 : x.Op = 2) : okD S x = (((decide (x.A = 0) && decide (x.B = 0)) && inR x.Column 0 2) && zeroV x.V, 0, S) := by unfold okD; rw [if_neg h, if_pos h1]
theorem okD_3 (h : ¬ x.Op = 1) (h1 : ¬ x.Op = 2) (h2 : inR x.Op 3 5 = true) : okD S x = ((((popF S x.A).2.1 && decide (x.B = 0)) && decide (x.Column = 0)) && zeroV x.V, (popF S x.A).1, (popF S x.A).2.2) := by unfold okD; rw [if_neg h, if_neg h1, if_pos h2]
theorem okD_4 (h : ¬ x.Op = 1) (h1 : ¬ x.Op = 2) (h2 : inR x.Op 3 5 = false) (h3 : inR x.Op 6 13 = true) : okD S x = ((((popF S x.B).2.1 && (popF (popF S x.B).2.2 x.A).2.1) && decide (x.Column = 0)) && zeroV x.V, mxI (popF (popF S x.B).2.2 x.A).1 (popF S x.B).1, (popF (popF S x.B).2.2 x.A).2.2) := by
  unfold okD; rw [if_neg h, if_neg h1, if_neg (by rw [h2]; simp), if_pos h3]
theorem okD_5 (h : ¬ x.Op = 1) (h1 : ¬ x.Op = 2) (h2 : inR x.Op 3 5 = false) (h3 : inR x.Op 6 13 = false) : okD S x = (false, 0, S) := by
  unfold okD; rw [if_neg h, if_neg h1, if_neg (by rw [h2]; simp), if_neg (by rw [h3]; simp)]
end
section
variable {ns : List GExprNode} {S : List IDp} {k : Nat}
theorem scan_none : ∀ {m : Nat}, k ≤ m → scanD ns k = none → scanD ns m = none
  | 0, hk, h => by have : k = 0 := by omega
                   subst this; exact h
  | m + 1, hk, h => by
    by_cases e : k = m + 1
    · subst e; exact h
    · rw [scanD, scan_none (by omega) h]
theorem scan_next (hk : k < ns.length) (h : scanD ns k = some S) : scanD ns (k + 1) = stepD S k ns[k] := by rw [scanD, h, List.getElem?_eq_getElem hk]
theorem stepD_f {x : GExprNode} (h : (okD S x).1 = false) : stepD S k x = none := by unfold stepD; rw [if_pos h]
theorem stepD_t {x : GExprNode} (h : (okD S x).1 = true) : stepD S k x = some ((okD S x).2.2 ++ [((k : Int), (okD S x).2.1 + 1)]) := by unfold stepD; rw [if_neg (by rw [h]; simp)]
theorem depthF_none (hk : k ≤ ns.length) (h : scanD ns k = none) : depthF ns = 0 := by unfold depthF; rw [scan_none hk h]
theorem depthF_no (h : scanD ns ns.length = some S) (h1 : ¬ (S.length : Int) = 1) : depthF ns = 0 := by unfold depthF; rw [h]; dsimp only; rw [if_neg (by omega)]
theorem depthF_yes (h : scanD ns ns.length = some S) (h1 : (S.length : Int) = 1) : depthF ns = (S.getD 0 (0, 0)).2 := by unfold depthF; rw [h]; dsimp only; rw [if_pos (by omega)]
/-- Depths are small. -/
def lowS (S : List IDp) (n : Int) : Prop := ∀ p ∈ S, 0 ≤ p.2 ∧ p.2 ≤ n
theorem popF_low {a n : Int} (hn : 0 ≤ n) (h : lowS S n) : 0 ≤ (popF S a).1 ∧ (popF S a).1 ≤ n ∧ lowS (popF S a).2.2 n := by
  unfold popF; split
  · exact ⟨Int.le_refl _, hn, h⟩
  · rename_i p hp
    split
    · have := h p (List.mem_of_getLast? hp)
      exact ⟨this.1, this.2, fun q hq => h q ((List.dropLast_sublist _).subset hq)⟩
    · exact ⟨Int.le_refl _, hn, h⟩
theorem okD_low {x : GExprNode} {n : Int} (hn : 0 ≤ n) (h : lowS S n) : 0 ≤ (okD S x).2.1 ∧ (okD S x).2.1 ≤ n ∧ lowS (okD S x).2.2 n ∧ (okD S x).2.2.length ≤ S.length := by
  have a := popF_low (a := x.A) hn h
  have b := popF_low (a := x.B) hn h
  have c := popF_low (a := x.A) hn b.2.2
  have d := mxI_b ⟨c.1, c.2.1⟩ ⟨b.1, b.2.1⟩
  have e1 := @popF_len S x.A
  have e2 := @popF_len S x.B
  have e3 := @popF_len (popF S x.B).2.2 x.A
  unfold okD
  split
  · exact ⟨Int.le_refl _, hn, h, Nat.le_refl _⟩
  · split
    · exact ⟨Int.le_refl _, hn, h, Nat.le_refl _⟩
    · split
      · exact ⟨a.1, a.2.1, a.2.2, e1⟩
      · split
        · exact ⟨d.1, d.2, c.2.2, by dsimp only; omega⟩
        · exact ⟨Int.le_refl _, hn, h, Nat.le_refl _⟩
theorem okD_rs {x : GExprNode} {rs : List (List D)} (hrs : rs.take S.length = S.map prow) : rs.take (okD S x).2.2.length = (okD S x).2.2.map prow := by
  unfold okD
  split
  · exact hrs
  · split
    · exact hrs
    · split
      · exact popF_rs hrs
      · split
        · exact popF_rs (popF_rs hrs)
        · exact hrs
theorem lowS_app {d n : Int} {i : Int} (h : lowS S n) (hd : 0 ≤ d ∧ d ≤ n) : lowS (S ++ [(i, d + 1)]) (n + 1) := fun p hp => by
  rcases List.mem_append.1 hp with hp | hp
  · have := h p hp; omega
  · rw [List.mem_singleton] at hp; subst hp; dsimp only; omega
end
theorem stk_le {S : List IDp} {rs : List (List D)} (h : rs.take S.length = S.map prow) : S.length ≤ rs.length := by
  have := congrArg List.length h
  rw [List.length_take, List.length_map] at this
  omega
theorem stk_len {α : Type} {X : Option (List IDp)} {S : List IDp} {p : IDp} {x : α} (_ : X = some (S ++ [p])) : S.length + [x].length = (S ++ [p]).length := by simp
theorem stk_app {X : Option (List IDp)} {S : List IDp} {p : IDp} {rs : List (List D)} (_ : X = some (S ++ [p])) (h : rs.take S.length = S.map prow) : rs.take S.length ++ [prow p] = (S ++ [p]).map prow := by rw [h, List.map_append]; rfl
theorem stk_inv {X : Option (List IDp)} {S : List IDp} {p : IDp} (_ : X = some (S ++ [p])) : ((S ++ [p]).map prow).take (S ++ [p]).length = (S ++ [p]).map prow := List.take_of_length_le (by simp)
theorem row0 {S : List IDp} {rs : List (List D)} (h : rs.take S.length = S.map prow) (h1 : (S.length : Int) = 1) : rs[(0 : Int).toNat]? = some (prow (S.getD 0 (0, 0))) := by
  have h2 : (rs.take S.length)[0]? = (S.map prow)[0]? := by rw [h]
  rw [List.getElem?_take, if_pos (by omega), List.getElem?_map, List.getElem?_eq_getElem (by omega : 0 < S.length)] at h2
  show rs[0]? = _
  rw [h2]
  simp [List.getD, show 0 < S.length from by omega]
/-! Statements. -/
def zeroR (r : GRow) : Bool := decide (r.Id = 0) && (decide (r.N.Kind = 0) && (decide (r.N.N = 0) && (decide (r.N.T = []) && (decide (r.Name.Kind = 0) && (decide (r.Name.N = 0) && (decide (r.Name.T = []) && true))))))
def noneE (e : GExpr) : Bool := decide ((e.Nodes.length : Int) = 0)
def sBad0 (s : GStmt) : Bool := (!inR s.Kind 1 4 || !inR s.Table 1 3) || (!noneE s.Where && (decide (s.Kind = 2) || !exprOK s.Where))
def sBad1 (s : GStmt) : Bool := (!decide (s.Kind = 2) && !zeroR s.Row) || (decide (s.Kind = 2) && !rowOK s.Row)
def sBad3 (s : GStmt) : Bool := !inR s.Column 1 2 || !exprOK s.Set
def sBad4 (s : GStmt) : Bool := !decide (s.Column = 0) || !noneE s.Set
def sTail (s : GStmt) : Bool := bif !decide (s.Kind = 1) then decide (s.Order = 0) && !s.Down else inR s.Order 0 2
def stmtOK (s : GStmt) : Bool := bif sBad0 s then false else bif sBad1 s then false else bif decide (s.Kind = 3) then (bif sBad3 s then false else sTail s) else (bif sBad4 s then false else sTail s)
theorem inR_f {n lo hi : Int} (h : ¬ (lo ≤ n ∧ n ≤ hi)) : inR n lo hi = false := by
  cases hh : inR n lo hi with
  | false => rfl
  | true => exact absurd (inR_iff.1 hh) h
theorem stmt_bad {s : GStmt} (h : inR s.Table 1 3 = false ∨ (noneE s.Where || exprOK s.Where) = false) : stmtOK s = false := by
  have : sBad0 s = true := by
    unfold sBad0
    rcases h with h | h
    · rw [h]; simp
    · rw [Bool.or_eq_false_iff] at h; rw [h.1, h.2]; simp
  unfold stmtOK; rw [this]; rfl
section
variable {s : GStmt} (h1 : inR s.Table 1 3 = true) (h2 : (noneE s.Where || exprOK s.Where) = true)
include h1 h2
theorem stmt_1 (h : s.Kind = 1) : (((zeroR s.Row && decide (s.Column = 0)) && noneE s.Set) && inR s.Order 0 2) = stmtOK s := by
  unfold stmtOK sBad0 sBad1 sBad3 sBad4 sTail
  rw [h, h1, show inR 1 1 4 = true from rfl, show decide ((1 : Int) = 2) = false from rfl, show decide ((1 : Int) = 3) = false from rfl, show decide ((1 : Int) = 1) = true from rfl]
  cases zeroR s.Row <;> cases decide (s.Column = 0) <;> cases noneE s.Set <;> cases inR s.Order 0 2 <;> cases hw : noneE s.Where <;> cases hx : exprOK s.Where <;> simp_all
theorem stmt_2 (h : s.Kind = 2) : ((((rowOK s.Row && decide (s.Column = 0)) && noneE s.Set) && noneE s.Where) && !(!decide (s.Order = 0) || s.Down)) = stmtOK s := by
  unfold stmtOK sBad0 sBad1 sBad3 sBad4 sTail
  rw [h, h1, show inR 2 1 4 = true from rfl, show decide ((2 : Int) = 2) = true from rfl, show decide ((2 : Int) = 3) = false from rfl, show decide ((2 : Int) = 1) = false from rfl]
  cases rowOK s.Row <;> cases decide (s.Column = 0) <;> cases noneE s.Set <;> cases decide (s.Order = 0) <;> cases s.Down <;> cases hw : noneE s.Where <;> cases hx : exprOK s.Where <;> simp_all
theorem stmt_3 (h : s.Kind = 3) : (((zeroR s.Row && inR s.Column 1 2) && exprOK s.Set) && !(!decide (s.Order = 0) || s.Down)) = stmtOK s := by
  unfold stmtOK sBad0 sBad1 sBad3 sBad4 sTail
  rw [h, h1, show inR 3 1 4 = true from rfl, show decide ((3 : Int) = 2) = false from rfl, show decide ((3 : Int) = 3) = true from rfl, show decide ((3 : Int) = 1) = false from rfl]
  cases zeroR s.Row <;> cases inR s.Column 1 2 <;> cases exprOK s.Set <;> cases decide (s.Order = 0) <;> cases s.Down <;> cases hw : noneE s.Where <;> cases hx : exprOK s.Where <;> simp_all
theorem stmt_4 (h : ¬ s.Kind = 1) (h' : ¬ s.Kind = 2) (h'' : ¬ s.Kind = 3) : (((((decide (s.Kind = 4) && zeroR s.Row) && decide (s.Column = 0)) && noneE s.Set)) && !(!decide (s.Order = 0) || s.Down)) = stmtOK s := by
  unfold stmtOK sBad0 sBad1 sBad3 sBad4 sTail
  rw [h1, decide_eq_false h, decide_eq_false h', decide_eq_false h'']
  by_cases h4 : s.Kind = 4
  · rw [h4, show inR 4 1 4 = true from rfl, show decide ((4 : Int) = 4) = true from rfl]
    cases zeroR s.Row <;> cases decide (s.Column = 0) <;> cases noneE s.Set <;> cases decide (s.Order = 0) <;> cases s.Down <;> cases hw : noneE s.Where <;> cases hx : exprOK s.Where <;> simp_all
  · rw [inR_f (show ¬ (1 ≤ s.Kind ∧ s.Kind ≤ 4) from by omega), decide_eq_false h4]; rfl
end
theorem sumBy_mem {α : Type} {f : α → Nat} : ∀ {xs : List α} {x : α}, x ∈ xs → f x ≤ sumBy f xs
  | y :: ys, x, h => by
    rw [sumBy]
    rcases List.mem_cons.1 h with rfl | h
    · omega
    · have := sumBy_mem (f := f) h; omega
theorem szL_mem {α : Type} {f : α → Nat} {xs : List α} {x : α} (h : x ∈ xs) : f x ≤ szL f xs := by
  have := sumBy_mem (f := f) h
  unfold szL; omega
theorem expr_sz {e : GExpr} {n : Nat} (h : e.sz ≤ n) : e.Nodes.length ≤ n ∧ ∀ x ∈ e.Nodes, x.V.T.length ≤ n := by
  have h0 : e.sz = szL GExprNode.sz e.Nodes := rfl
  have h1 := @szL_len _ GExprNode.sz e.Nodes
  refine ⟨by omega, fun x hx => ?_⟩
  have h2 := szL_mem (f := GExprNode.sz) hx
  have h3 : GExprNode.sz x = x.V.T.length := rfl
  omega
theorem stmt_sz {s : GStmt} (h : s.sz ≤ 1048576) : s.Set.Nodes.length ≤ 1048576 ∧ (∀ x ∈ s.Set.Nodes, x.V.T.length ≤ 1048576) ∧ s.Where.Nodes.length ≤ 1048576 ∧ (∀ x ∈ s.Where.Nodes, x.V.T.length ≤ 1048576) ∧ s.Row.N.T.length ≤ 1048576 ∧ s.Row.Name.T.length ≤ 1048576 := by
  have h0 : s.sz = s.Row.N.T.length + s.Row.Name.T.length + GExpr.sz s.Set + GExpr.sz s.Where := rfl
  have a := expr_sz (e := s.Set) (n := 1048576) (by omega)
  have b := expr_sz (e := s.Where) (n := 1048576) (by omega)
  exact ⟨a.1, a.2, b.1, b.2, by omega, by omega⟩
end Go.AM

/- Plain laws: the code of an expression. -/
namespace Go.AM
def patchN (o : List GIns) (j : Nat) (n : Int) : List GIns := match o[j]? with
  | none => o
  | some y => o.set j ⟨y.Op, n, y.V⟩
def binC (o : List GIns) (j : Nat) : List GIns := patchN o j (o.length : Int)
def putE (ns : List GExprNode) : Nat → Int → List GIns → List GIns
  | 0, _, out => out
  | f + 1, i, out => match ns[i.toNat]? with
    | none => out
    | some x =>
      if x.Op = 1 then out ++ [⟨1, 0, x.V⟩]
      else if x.Op = 2 then out ++ [⟨2, x.Column, .zero⟩]
      else if x.Op ≤ 5 then putE ns f x.A out ++ [⟨3, x.Op, .zero⟩]
      else if x.Op = 12 ∨ x.Op = 13 then
        binC (putE ns f x.B (putE ns f x.A out ++ [⟨if x.Op = 13 then 6 else 5, 0, .zero⟩]) ++ [⟨4, x.Op, .zero⟩]) (putE ns f x.A out).length
      else putE ns f x.B (putE ns f x.A out) ++ [⟨4, x.Op, .zero⟩]
section
variable {ns : List GExprNode} {f : Nat} {j : Nat} {out : List GIns}
theorem putE_1 (hj : j < ns.length) (h : ns[j].Op = 1) : putE ns (f + 1) j out = out ++ [⟨1, 0, ns[j].V⟩] := by
  rw [putE, show ((j : Int)).toNat = j from by omega, List.getElem?_eq_getElem hj]; dsimp only; rw [if_pos h]
theorem putE_2 (hj : j < ns.length) (h : ¬ ns[j].Op = 1) (h1 : ns[j].Op = 2) : putE ns (f + 1) j out = out ++ [⟨2, ns[j].Column, .zero⟩] := by
  rw [putE, show ((j : Int)).toNat = j from by omega, List.getElem?_eq_getElem hj]; dsimp only; rw [if_neg h, if_pos h1]
theorem putE_3 (hj : j < ns.length) (h : ¬ ns[j].Op = 1) (h1 : ¬ ns[j].Op = 2) (h2 : ns[j].Op ≤ 5) : putE ns (f + 1) j out = putE ns f ns[j].A out ++ [⟨3, ns[j].Op, .zero⟩] := by
  rw [putE, show ((j : Int)).toNat = j from by omega, List.getElem?_eq_getElem hj]; dsimp only; rw [if_neg h, if_neg h1, if_pos h2]
theorem putE_4 (hj : j < ns.length) (h : ¬ ns[j].Op = 1) (h1 : ¬ ns[j].Op = 2) (h2 : ¬ ns[j].Op ≤ 5) (h3 : ns[j].Op = 12 ∨ ns[j].Op = 13) {b : Int} (hb : b = if ns[j].Op = 13 then 6 else 5) : putE ns (f + 1) j out = binC (putE ns f ns[j].B (putE ns f ns[j].A out ++ [⟨b, 0, .zero⟩]) ++ [⟨4, ns[j].Op, .zero⟩]) (putE ns f ns[j].A out).length := by
  rw [putE, show ((j : Int)).toNat = j from by omega, List.getElem?_eq_getElem hj]; dsimp only; rw [if_neg h, if_neg h1, if_neg h2, if_pos h3, ← hb]
theorem putE_5 (hj : j < ns.length) (h : ¬ ns[j].Op = 1) (h1 : ¬ ns[j].Op = 2) (h2 : ¬ ns[j].Op ≤ 5) (h3 : ¬ (ns[j].Op = 12 ∨ ns[j].Op = 13)) : putE ns (f + 1) j out = putE ns f ns[j].B (putE ns f ns[j].A out) ++ [⟨4, ns[j].Op, .zero⟩] := by
  rw [putE, show ((j : Int)).toNat = j from by omega, List.getElem?_eq_getElem hj]; dsimp only; rw [if_neg h, if_neg h1, if_neg h2, if_neg h3]
theorem patchN_pre {out o : List GIns} {k : Nat} {n : Int} (h : ∃ e, o = out ++ e) (hk : out.length ≤ k) : ∃ e, patchN o k n = out ++ e := by
  obtain ⟨e, rfl⟩ := h
  unfold patchN
  split
  · exact ⟨e, rfl⟩
  · exact ⟨_, by rw [List.set_append, if_neg (by omega)]⟩
theorem patchN_len {o : List GIns} {k : Nat} {n : Int} : (patchN o k n).length = o.length := by
  unfold patchN; split
  · rfl
  · rw [List.length_set]
theorem putE_pre : ∀ {f : Nat} {i : Int} {out : List GIns}, ∃ e, putE ns f i out = out ++ e
  | 0, i, out => ⟨[], by simp [putE]⟩
  | f + 1, i, out => by
    rw [putE]
    split
    · exact ⟨[], by simp⟩
    · rename_i x _
      have st : ∀ {i : Int} {o1 : List GIns}, (∃ e, o1 = out ++ e) → ∃ e, putE ns f i o1 = out ++ e := by
        rintro i o1 ⟨e, rfl⟩
        obtain ⟨e2, h2⟩ := putE_pre (f := f) (i := i) (out := out ++ e)
        exact ⟨e ++ e2, by rw [h2, List.append_assoc]⟩
      have ap : ∀ {o1 : List GIns} {y : GIns}, (∃ e, o1 = out ++ e) → ∃ e, o1 ++ [y] = out ++ e := by
        rintro o1 y ⟨e, rfl⟩; exact ⟨e ++ [y], by rw [List.append_assoc]⟩
      have p0 := putE_pre (f := f) (i := x.A) (out := out)
      split
      · exact ⟨_, rfl⟩
      · split
        · exact ⟨_, rfl⟩
        · split
          · exact ap p0
          · split
            · unfold binC; refine patchN_pre (ap (st (ap p0))) ?_
              obtain ⟨e, he⟩ := p0
              rw [he, List.length_append]; omega
            · exact ap (st p0)
theorem putE_ge {i : Int} : out.length ≤ (putE ns f i out).length := by
  obtain ⟨e, he⟩ := putE_pre (ns := ns) (f := f) (i := i) (out := out)
  rw [he, List.length_append]; omega
/-- What a right node asks of its children. -/
theorem T_un (hj : j < ns.length) (ht : (T ns j).2.2 = true) (h : ¬ ns[j].Op = 1) (h1 : ¬ ns[j].Op = 2) : (ns[j].Op ≤ 5 → inR ns[j].Op 3 5 = true ∧ ns[j].A = (j : Int) - 1 ∧ (T ns ((j : Int) - 1)).2.2 = true ∧ (T ns j).1 = (T ns ((j : Int) - 1)).1) ∧
    (¬ ns[j].Op ≤ 5 → inR ns[j].Op 3 5 = false ∧ ns[j].B = (j : Int) - 1 ∧ (T ns ((j : Int) - 1)).2.2 = true ∧ ns[j].A = (T ns ((j : Int) - 1)).1 - 1 ∧ (T ns ns[j].A).2.2 = true ∧ (T ns j).1 = (T ns ns[j].A).1) := by
  have e := T_at hj
  rw [e] at ht ⊢
  cases h2 : inR ns[j].Op 3 5 with
  | true =>
    have := inR_iff.1 h2
    rw [nodeW_3 h h1 h2] at ht ⊢
    simp only [Bool.and_eq_true, decide_eq_true_eq] at ht
    exact ⟨fun _ => ⟨rfl, ht.1.1.1.2, ht.1.1.1.1, rfl⟩, fun hh => by omega⟩
  | false =>
    cases h3 : inR ns[j].Op 6 13 with
    | false => rw [nodeW_6 h h1 h2 h3] at ht; cases ht
    | true =>
      have := inR_iff.1 h3
      cases h4 : (T ns ((j : Int) - 1)).2.2 with
      | false => rw [nodeW_4 h h1 h2 h3 h4] at ht; cases ht
      | true =>
        rw [nodeW_5 h h1 h2 h3 h4] at ht ⊢
        simp only [Bool.and_eq_true, decide_eq_true_eq] at ht
        obtain ⟨⟨⟨⟨o1, o2⟩, o3⟩, o4⟩, o5⟩ := ht
        exact ⟨fun hh => by omega, fun _ => ⟨rfl, o3, rfl, o2, by rw [o2]; exact o1, by rw [o2]⟩⟩
theorem T_nn {i : Int} (h : (T ns i).2.2 = true) : 0 ≤ i := by
  rcases Int.lt_or_le i 0 with h1 | h1
  · rw [T_neg h1] at h; cases h
  · exact h1
/-- How long the code grows. -/
theorem putE_len : ∀ {f : Nat} {j : Nat} {out : List GIns}, j < f → j < ns.length → (T ns j).2.2 = true → ((putE ns f j out).length : Int) ≤ out.length + 2 * ((j : Int) - (T ns j).1 + 1)
  | f + 1, j, out, hf, hj, ht => by
    have hb := @T_b ns j
    by_cases h : ns[j].Op = 1
    · rw [putE_1 hj h, List.length_append, List.length_singleton]; omega
    · by_cases h1 : ns[j].Op = 2
      · rw [putE_2 hj h h1, List.length_append, List.length_singleton]; omega
      · obtain ⟨u, v⟩ := T_un hj ht h h1
        by_cases h2 : ns[j].Op ≤ 5
        · obtain ⟨_, u1, u2, u3⟩ := u h2
          rw [putE_3 hj h h1 h2, List.length_append, List.length_singleton, u1]
          have := T_nn u2
          obtain ⟨m, hm⟩ : ∃ m : Nat, (j : Int) - 1 = m := ⟨((j : Int) - 1).toNat, by omega⟩
          rw [hm] at u2 u3 ⊢
          have := putE_len (f := f) (j := m) (out := out) (by omega) (by omega) u2
          omega
        · obtain ⟨_, v1, v2, v3, v4, v5⟩ := v h2
          have n1 := T_nn v2
          have n2 := T_nn v4
          obtain ⟨m, hm⟩ : ∃ m : Nat, (j : Int) - 1 = m := ⟨((j : Int) - 1).toNat, by omega⟩
          obtain ⟨a, ha⟩ : ∃ a : Nat, ns[j].A = a := ⟨(ns[j].A).toNat, by omega⟩
          rw [hm] at v2 v3
          rw [ha] at v3 v4 v5
          have b1 := @T_b ns m
          have la := fun o => putE_len (f := f) (j := a) (out := o) (by omega) (by omega) v4
          have lb := fun o => putE_len (f := f) (j := m) (out := o) (by omega) (by omega) v2
          by_cases h3 : ns[j].Op = 12 ∨ ns[j].Op = 13
          · rw [putE_4 hj h h1 h2 h3 rfl, binC, patchN_len, List.length_append, List.length_singleton, v1, ha, hm]
            have := la out
            have := lb (putE ns f a out ++ [⟨if ns[j].Op = 13 then 6 else 5, 0, .zero⟩])
            rw [List.length_append, List.length_singleton] at this
            omega
          · rw [putE_5 hj h h1 h2 h3, List.length_append, List.length_singleton, v1, ha, hm]
            have := la out
            have := lb (putE ns f a out)
            omega
theorem T_kids (hj : j < ns.length) (ht : (T ns j).2.2 = true) (h : ¬ ns[j].Op = 1) (h1 : ¬ ns[j].Op = 2) : (0 ≤ ns[j].A ∧ ns[j].A < j ∧ (T ns ns[j].A).2.2 = true ∧ (T ns j).1 = (T ns ns[j].A).1) ∧ (¬ ns[j].Op ≤ 5 → 0 ≤ ns[j].B ∧ ns[j].B < j ∧ (T ns ns[j].B).2.2 = true ∧ (T ns ns[j].B).1 = ns[j].A + 1 ∧ ns[j].B = (j : Int) - 1) := by
  obtain ⟨u, v⟩ := T_un hj ht h h1
  by_cases h2 : ns[j].Op ≤ 5
  · obtain ⟨_, u1, u2, u3⟩ := u h2
    have := T_nn u2
    rw [u1]
    exact ⟨⟨this, by omega, u2, u3⟩, fun hh => absurd h2 hh⟩
  · obtain ⟨_, v1, v2, v3, v4, v5⟩ := v h2
    have n1 := T_nn v2
    have n2 := T_nn v4
    have b := @T_b ns ((j : Int) - 1)
    rw [v1]
    exact ⟨⟨n2, by omega, v4, v5⟩, fun _ => ⟨n1, by omega, v2, by omega, rfl⟩⟩
theorem putE_lenI {i : Int} (h0 : 0 ≤ i) (hf : i < f) (hl : i < ns.length) (ht : (T ns i).2.2 = true) : ((putE ns f i out).length : Int) ≤ out.length + 2 * (i - (T ns i).1 + 1) := by
  obtain ⟨m, rfl⟩ : ∃ m : Nat, i = m := ⟨i.toNat, by omega⟩
  exact putE_len (by omega) (by omega) ht
theorem bin_at {i : Int} {o : List GIns} {y z : GIns} : (putE ns f i (o ++ [y]) ++ [z])[o.length]? = some y := by
  obtain ⟨e, he⟩ := putE_pre (ns := ns) (f := f) (i := i) (out := o ++ [y])
  rw [he]; simp
theorem bin_set {oc : List GIns} {k : Nat} {y : GIns} (h : oc[k]? = some y) : (oc.map GIns.row).set k (GIns.row ⟨y.Op, oc.length, y.V⟩) = (binC oc k).map GIns.row := by
  unfold binC patchN; rw [h]; dsimp only; rw [List.map_set]
theorem binC_len {oc : List GIns} {k : Nat} : (binC oc k).length = oc.length := patchN_len
def bitI (b : Bool) : Int := bif b then 1 else 0
theorem bitI_b {b : Bool} : 0 ≤ bitI b ∧ bitI b ≤ 1 := by cases b <;> decide
theorem bit13 {n : Int} : 5 + bitI (decide (n = 13)) = if n = 13 then 6 else 5 := by
  by_cases h : n = 13 <;> simp [h, bitI]
end
def compF (e : GExpr) : List GIns × Int := if exprOK e = false then ([], 1) else (putE e.Nodes (e.Nodes.length + 1) ((e.Nodes.length : Int) - 1) [], 0)
theorem compF_0 {e : GExpr} (h : exprOK e = false) : compF e = ([], 1) := by unfold compF; rw [if_pos h]
theorem compF_1 {e : GExpr} (h : exprOK e = true) : compF e = (putE e.Nodes (e.Nodes.length + 1) ((e.Nodes.length : Int) - 1) [], 0) := by unfold compF; rw [if_neg (by rw [h]; simp)]
theorem exprOK_T {e : GExpr} (h : exprOK e = true) : (1 ≤ e.Nodes.length ∧ e.Nodes.length ≤ 40) ∧ (T e.Nodes ((e.Nodes.length : Int) - 1)).2.2 = true ∧ (T e.Nodes ((e.Nodes.length : Int) - 1)).1 = 0 := by
  cases h0 : inR (e.Nodes.length : Int) 1 40 with
  | false => rw [exprOK_0 h0] at h; cases h
  | true =>
    have := inR_iff.1 h0
    rw [exprOK_1 h0, T_of (by omega) (by omega)] at h
    simp only [Bool.and_eq_true, decide_eq_true_eq] at h
    exact ⟨by omega, h.1.1, h.1.2⟩
theorem comp_hyps {e : GExpr} (h : exprOK e = true) : 0 ≤ (e.Nodes.length : Int) - 1 ∧ (e.Nodes.length : Int) - 1 < ((e.Nodes.length + 1 : Nat) : Int) ∧ (e.Nodes.length : Int) - 1 < e.Nodes.length ∧ (T e.Nodes ((e.Nodes.length : Int) - 1)).2.2 = true ∧ ((([] : List GIns).length : Nat) : Int) + 2 * ((e.Nodes.length : Int) - 1 - (T e.Nodes ((e.Nodes.length : Int) - 1)).1 + 1) ≤ 1000000 := by
  obtain ⟨h1, h2, h3⟩ := exprOK_T h
  exact ⟨by omega, by omega, by omega, h2, by rw [h3]; simp; omega⟩
theorem compF_len {e : GExpr} : (compF e).1.length ≤ 80 := by
  cases h : exprOK e with
  | false => rw [compF_0 h]; exact Nat.zero_le _
  | true =>
    rw [compF_1 h]
    obtain ⟨h1, h2, h3⟩ := exprOK_T h
    have := putE_lenI (ns := e.Nodes) (f := e.Nodes.length + 1) (out := []) (i := (e.Nodes.length : Int) - 1) (by omega) (by omega) (by omega) h2
    rw [h3] at this
    simp at this
    show (putE e.Nodes (e.Nodes.length + 1) ((e.Nodes.length : Int) - 1) []).length ≤ 80
    omega
end Go.AM

/- Plain laws: how many values stand ahead of each instruction. -/
namespace Go.AM
theorem zeroV_eq {v : GValue} : eqb v .zero = zeroV v := by
  rw [Bool.eq_iff_iff, eqb_iff, GValue.eq_iff]; unfold zeroV; simp [GValue.zero]
def insOK (x : GIns) (i n : Int) : Bool :=
  if x.Op = 1 then decide (x.N = 0) && valueOK x.V
  else if zeroV x.V = false then false
  else if x.Op = 2 then inR x.N 0 2
  else if x.Op = 3 then inR x.N 3 5
  else if x.Op = 4 then inR x.N 6 13
  else if x.Op = 5 ∨ x.Op = 6 then inR x.N (i + 1) n
  else false
def lowI (x : GIns) : Int := if x.Op = 1 ∨ x.Op = 2 then 0 else if x.Op = 4 then 2 else 1
def behI (x : GIns) (d : Int) : Int := if x.Op = 1 ∨ x.Op = 2 then d + 1 else if x.Op = 4 then d - 1 else d
def tosI (x : GIns) (i : Int) : List Int := if x.Op = 5 ∨ x.Op = 6 then [i + 1, x.N] else [i + 1]
def put1 (b : Int) (ds : List Int) (t : Int) : Option (List Int) := if 0 ≤ ds.getD t.toNat 0 ∧ ds.getD t.toNat 0 ≠ b then none else some (ds.set t.toNat b)
def putL (b : Int) (ds : List Int) : List Int → Option (List Int)
  | [] => some ds
  | t :: ts => match put1 b ds t with
    | none => none
    | some d => putL b d ts
def stepH (n i : Int) (x : GIns) (ds : List Int) : Option (List Int) :=
  if ds.getD i.toNat 0 < 0 ∨ insOK x i n = false then none
  else if ds.getD i.toNat 0 < lowI x ∨ 60 < behI x (ds.getD i.toNat 0) then none
  else putL (behI x (ds.getD i.toNat 0)) ds (tosI x i)
def runH (l : List GIns) : Nat → Option (List Int)
  | 0 => some (0 :: List.replicate l.length (-1))
  | k + 1 => match runH l k with
    | none => none
    | some ds => match l[k]? with
      | none => none
      | some x => stepH l.length k x ds
def depths (l : List GIns) : Option (List Int) := runH l l.length
def okC (l : List GIns) : Bool := match depths l with
  | none => false
  | some ds => decide (ds.getD l.length 0 = 1)
def codeOK (l : List GIns) : Bool := decide (l.length ≤ 80) && okC l
section
variable {l : List GIns} {k : Nat} {ds ds' : List Int} {x : GIns} {b n i : Int}
theorem put1_len {t : Int} (h : put1 b ds t = some ds') : ds'.length = ds.length := by
  unfold put1 at h; split at h
  · cases h
  · cases h; simp
theorem putL_len : ∀ {ts : List Int} {ds : List Int}, putL b ds ts = some ds' → ds'.length = ds.length
  | [], ds, h => by cases h; rfl
  | t :: ts, ds, h => by
    rw [putL] at h; split at h
    · cases h
    · rename_i d hd; rw [putL_len h, put1_len hd]
theorem stepH_len (h : stepH n i x ds = some ds') : ds'.length = ds.length := by
  unfold stepH at h; split at h
  · cases h
  · split at h
    · cases h
    · exact putL_len h
theorem runH_len : ∀ {k : Nat} {ds : List Int}, runH l k = some ds → ds.length = l.length + 1
  | 0, ds, h => by rw [runH] at h; cases h; simp
  | k + 1, ds, h => by
    rw [runH] at h; split at h
    · cases h
    · rename_i d hd; split at h
      · cases h
      · rw [stepH_len h, runH_len hd]
theorem runH_next (h : runH l k = some ds) (hk : k < l.length) : runH l (k + 1) = stepH l.length k l[k] ds := by
  rw [runH, h]; simp only [List.getElem?_eq_getElem hk]
theorem runH_none {m : Nat} (h : runH l k = none) (hm : k ≤ m) : runH l m = none := by
  induction m with
  | zero => rw [show k = 0 from by omega] at h; exact h
  | succ m ih =>
    by_cases e : k = m + 1
    · rw [← e]; exact h
    · rw [runH, ih (by omega)]
theorem depths_no (h : runH l k = some ds) (hk : k < l.length) (hs : stepH l.length k l[k] ds = none) : depths l = none :=
  runH_none (k := k + 1) (by rw [runH_next h hk, hs]) hk
theorem okC_no (h : depths l = none) : okC l = false := by unfold okC; rw [h]
theorem okC_yes (h : depths l = some ds) : okC l = decide (ds.getD l.length 0 = 1) := by unfold okC; rw [h]
theorem stepH_1 (h : ds.getD i.toNat 0 < 0) : stepH n i x ds = none := by unfold stepH; rw [if_pos (.inl h)]
theorem stepH_2 (h : insOK x i n = false) : stepH n i x ds = none := by unfold stepH; rw [if_pos (.inr h)]
theorem stepH_3 (h : ds.getD i.toNat 0 < lowI x ∨ 60 < behI x (ds.getD i.toNat 0)) : stepH n i x ds = none := by
  unfold stepH; split
  · rfl
  · rfl
theorem stepH_4 (h1 : ¬ ds.getD i.toNat 0 < 0) (h2 : insOK x i n = true) (h3 : ¬ ds.getD i.toNat 0 < lowI x) (h4 : ¬ 60 < behI x (ds.getD i.toNat 0)) : stepH n i x ds = putL (behI x (ds.getD i.toNat 0)) ds (tosI x i) := by
  unfold stepH; rw [if_neg (fun hh => hh.elim h1 (fun e => by rw [h2] at e; cases e)), if_neg (by omega)]
theorem putL_app {ts : List Int} {t : Int} : ∀ {ds : List Int}, putL b ds (ts ++ [t]) = match putL b ds ts with
    | none => none
    | some d => put1 b d t := by
  induction ts with
  | nil => intro ds; simp only [List.nil_append, putL]; cases put1 b ds t <;> rfl
  | cons s ts ih =>
    intro ds
    rw [List.cons_append, putL, putL]
    cases put1 b ds s with
    | none => rfl
    | some d => exact ih
theorem putL_step {ts : List Int} {j : Nat} (hj : j < ts.length) (h : putL b ds (ts.take j) = some ds') : putL b ds (ts.take (j + 1)) = put1 b ds' ts[j] := by
  rw [take_succ hj, putL_app, h]
theorem putL_none {ts : List Int} {j : Nat} (h : putL b ds (ts.take j) = none) : putL b ds ts = none := by
  have : ∀ (us vs : List Int) (ds : List Int), putL b ds us = none → putL b ds (us ++ vs) = none := by
    intro us
    induction us with
    | nil => intro vs ds h; cases h
    | cons u us ih =>
      intro vs ds h
      rw [List.cons_append, putL]
      rw [putL] at h
      cases hp : put1 b ds u with
      | none => rfl
      | some d => rw [hp] at h; exact ih vs d h
  have h2 := this (ts.take j) (ts.drop j) ds h
  rwa [List.take_append_drop] at h2
theorem getD_setL {s t : Nat} (hs : s < ds.length) : (ds.set s b).getD t 0 = if s = t then b else ds.getD t 0 := by
  simp only [List.getD_eq_getElem?_getD, List.getElem?_set]
  by_cases h : s = t
  · subst h; simp [hs]
  · simp [h]
theorem put_swap {s t : Int} (hs : s.toNat < ds.length) (ht : t.toNat < ds.length) : putL b ds [s, t] = putL b ds [t, s] := by
  by_cases e : s.toNat = t.toNat
  · simp only [putL, put1, e]
  · have h1 : (ds.set s.toNat b).getD t.toNat 0 = ds.getD t.toNat 0 := by rw [getD_setL hs, if_neg e]
    have h2 : (ds.set t.toNat b).getD s.toNat 0 = ds.getD s.toNat 0 := by rw [getD_setL ht, if_neg (fun h => e h.symm)]
    simp only [putL, put1]
    by_cases p : 0 ≤ ds.getD s.toNat 0 ∧ ds.getD s.toNat 0 ≠ b <;> by_cases q : 0 ≤ ds.getD t.toNat 0 ∧ ds.getD t.toNat 0 ≠ b
    · simp only [if_pos p, if_pos q]
    · simp only [if_pos p, if_neg q, h2]
    · simp only [if_neg p, if_pos q, h1]
    · simp only [if_neg p, if_neg q, h1, h2]
      rw [List.set_comm _ _ e]
/-- All of it lies between -1 and 60, and nothing stands at the first place. -/
def goodD (ds : List Int) : Prop := ds.getD 0 0 = 0 ∧ ∀ d ∈ ds, -1 ≤ d ∧ d ≤ 60
theorem put1_good {t : Int} (hg : goodD ds) (h : put1 b ds t = some ds') (ht : 1 ≤ t) (hb : 0 ≤ b ∧ b ≤ 60) : goodD ds' := by
  unfold put1 at h; split at h
  · cases h
  · cases h
    refine ⟨?_, fun d hd => ?_⟩
    · have : t.toNat ≠ 0 := by omega
      simp only [List.getD_eq_getElem?_getD, List.getElem?_set, if_neg this]
      have := hg.1; simpa [List.getD_eq_getElem?_getD] using this
    · rcases List.mem_or_eq_of_mem_set hd with h | rfl
      · exact hg.2 d h
      · omega
theorem putL_good : ∀ {ts : List Int} {ds : List Int}, goodD ds → putL b ds ts = some ds' → (∀ t ∈ ts, 1 ≤ t) → 0 ≤ b ∧ b ≤ 60 → goodD ds'
  | [], ds, hg, h, _, _ => by cases h; exact hg
  | t :: ts, ds, hg, h, ht, hb => by
    rw [putL] at h; split at h
    · cases h
    · rename_i d hd
      exact putL_good (put1_good hg hd (ht t (List.mem_cons_self ..)) hb) h (fun u hu => ht u (List.mem_cons_of_mem _ hu)) hb
theorem tosI_b (hi : 0 ≤ i) (hin : i < n) (h : insOK x i n = true) : ∀ t ∈ tosI x i, 1 ≤ t ∧ t ≤ n := by
  intro t ht
  unfold tosI at ht
  split at ht
  · rename_i h5
    have : inR x.N (i + 1) n = true := by
      unfold insOK at h
      rw [if_neg (by omega)] at h
      split at h
      · cases h
      · rcases h5 with e | e <;> simpa [e] using h
    rw [inR_iff] at this
    rcases List.mem_cons.1 ht with rfl | ht
    · omega
    · rw [List.mem_singleton] at ht; subst ht; omega
  · rw [List.mem_singleton] at ht; subst ht; omega
theorem stepH_good (hi : 0 ≤ i) (hin : i < n) (hg : goodD ds) (h : stepH n i x ds = some ds') : goodD ds' := by
  unfold stepH at h; split at h
  · cases h
  · rename_i h1
    split at h
    · cases h
    · rename_i h2
      have hok : insOK x i n = true := by
        cases e : insOK x i n with
        | true => rfl
        | false => exact absurd (.inr e) h1
      refine putL_good hg h (fun t ht => (tosI_b hi hin hok t ht).1) ⟨?_, by omega⟩
      unfold lowI behI at *
      by_cases e1 : x.Op = 1 ∨ x.Op = 2
      · rw [if_pos e1] at *; omega
      · rw [if_neg e1] at *
        by_cases e4 : x.Op = 4
        · rw [if_pos e4] at *; omega
        · rw [if_neg e4] at *; omega
theorem runH_good : ∀ {k : Nat} {ds : List Int}, k ≤ l.length → runH l k = some ds → goodD ds
  | 0, ds, _, h => by
    rw [runH] at h; cases h
    refine ⟨rfl, fun d hd => ?_⟩
    rcases List.mem_cons.1 hd with rfl | hd
    · omega
    · rw [List.eq_of_mem_replicate hd]; omega
  | k + 1, ds, hk, h => by
    rw [runH] at h; split at h
    · cases h
    · rename_i d hd; split at h
      · cases h
      · exact stepH_good (by omega) (by omega) (runH_good (by omega) hd) h
/-! The greatest. -/
def maxL (ds : List Int) : Int := ds.foldl mxI 0
def maxK (ds : List Int) (k : Nat) : Int := (ds.take k).foldl mxI 0
theorem maxK_succ (h : k < ds.length) : maxK ds (k + 1) = mxI (maxK ds k) ds[k] := by
  unfold maxK; rw [take_succ h, List.foldl_append]; rfl
theorem maxK_b (h : ∀ d ∈ ds, -1 ≤ d ∧ d ≤ 60) : ∀ k, 0 ≤ maxK ds k ∧ maxK ds k ≤ 60 := by
  intro k
  unfold maxK
  have : ∀ (es : List Int) (a : Int), 0 ≤ a ∧ a ≤ 60 → (∀ d ∈ es, -1 ≤ d ∧ d ≤ 60) → 0 ≤ es.foldl mxI a ∧ es.foldl mxI a ≤ 60 := by
    intro es
    induction es with
    | nil => intro a ha _; exact ha
    | cons e es ih =>
      intro a ha he
      have := he e (List.mem_cons_self ..)
      exact ih _ (by unfold mxI; split <;> omega) (fun d hd => he d (List.mem_cons_of_mem _ hd))
  exact this _ 0 (by omega) (fun d hd => h d (List.mem_of_mem_take hd))
theorem maxK_one (hg : goodD ds) (h : 0 < ds.length) : maxK ds 1 = ds.getD 0 0 := by
  have e : ds[0] = 0 := by have := hg.1; simpa [List.getD_eq_getElem?_getD, h] using this
  rw [maxK_succ h, hg.1, e]; rfl
end
/-! What is repeated. -/
section
variable {α : Type} {q z : α} {n k : Nat}
def repS (q z : α) (n k : Nat) : List α := List.replicate k q ++ List.replicate (n - k) z
theorem repS_len (h : k ≤ n) : (repS q z n k).length = n := by unfold repS; simp; omega
theorem repS_0 (h : 1 ≤ n) : [].take 0 ++ [q].take 1 ++ (List.replicate n z).drop 1 = repS q z n 1 := by
  unfold repS; simp
theorem repS_full : repS q z n n = List.replicate n q := by unfold repS; simp
theorem repS_take (h : k ≤ n) : (repS q z n k).take k = List.replicate k q := by unfold repS; rw [List.take_left' (by simp)]
theorem repS_step (h : k ≤ n) : (repS q z n k).take k ++ (((repS q z n k).drop 0).take k).take (min k (n - k)) ++ (repS q z n k).drop (k + min k (n - k)) = repS q z n (k + min k (n - k)) := by
  rw [List.drop_zero, repS_take h]
  unfold repS
  rw [List.drop_append, List.take_replicate, List.length_replicate, List.drop_eq_nil_of_le (by simp), List.nil_append, List.drop_replicate, List.replicate_append_replicate,
    show min (min k (n - k)) k = min k (n - k) from by omega, show n - k - (k + min k (n - k) - k) = n - (k + min k (n - k)) from by omega]
end
def rowI (n : Int) : List D := intRow n
theorem rep_get {n : Nat} (h : 0 < n) : (List.replicate n (intRow (-1)))[0]? = some (intRow (-1)) := by
  rw [List.getElem?_replicate, if_pos h]
theorem rep_set {n m : Nat} (h : m = n + 1) : (List.replicate m (intRow (-1))).set 0 (intRow 0) = (0 :: List.replicate n (-1)).map intRow := by
  subst h; rw [List.replicate_succ, List.set_cons_zero]; simp
theorem dAt {ds : List Int} {k : Nat} (h : k < ds.length) : (ds.map intRow)[k]? = some (intRow (ds.getD k 0)) := by
  rw [mapAt h]; simp [List.getD_eq_getElem?_getD, h]
theorem dB {ds : List Int} {k : Nat} (hg : goodD ds) (h : k < ds.length) : -1 ≤ ds.getD k 0 ∧ ds.getD k 0 ≤ 60 := by
  have : ds.getD k 0 = ds[k] := by simp [List.getD_eq_getElem?_getD, h]
  rw [this]; exact hg.2 _ (List.getElem_mem h)
theorem setI {ds : List Int} {k : Nat} {b : Int} : (ds.map intRow).set k (intRow b) = (ds.set k b).map intRow := by rw [List.map_set]
theorem put1_no {b : Int} {ds : List Int} {t : Int} (h : 0 ≤ ds.getD t.toNat 0 ∧ ¬ ds.getD t.toNat 0 = b) : put1 b ds t = none := by unfold put1; rw [if_pos h]
theorem put1_ok {b : Int} {ds : List Int} {t : Int} (h : ¬ 0 ≤ ds.getD t.toNat 0 ∨ ds.getD t.toNat 0 = b) : put1 b ds t = some (ds.set t.toNat b) := by
  unfold put1; rw [if_neg (fun e => h.elim (fun h => h e.1) (fun h => e.2 h))]
theorem codeOK_0 {l : List GIns} (h : ¬ l.length ≤ 80) : codeOK l = false := by unfold codeOK; rw [decide_eq_false h]; rfl
theorem codeOK_1 {l : List GIns} (h : l.length ≤ 80) : codeOK l = okC l := by unfold codeOK; rw [decide_eq_true h]; rfl
theorem codeOK_no {l : List GIns} {k : Nat} {ds : List Int} (h : l.length ≤ 80) (hr : runH l k = some ds) (hk : k < l.length) (hs : stepH l.length k l[k] ds = none) : codeOK l = false := by
  rw [codeOK_1 h, okC_no (depths_no hr hk hs)]
theorem codeOK_end {l : List GIns} {ds : List Int} (h : l.length ≤ 80) (hr : runH l l.length = some ds) : codeOK l = decide (ds.getD l.length 0 = 1) := by
  rw [codeOK_1 h, okC_yes hr]
theorem insOK_1 {x : GIns} {i n : Int} (h : x.Op = 1) : insOK x i n = (decide (x.N = 0) && valueOK x.V) := by unfold insOK; rw [if_pos h]
theorem insOK_z {x : GIns} {i n : Int} (h : ¬ x.Op = 1) (hv : zeroV x.V = false) : insOK x i n = false := by unfold insOK; rw [if_neg h, if_pos hv]
theorem insOK_v {x : GIns} {i n : Int} (h : ¬ x.Op = 1) (hv : zeroV x.V = true) : insOK x i n = if x.Op = 2 then inR x.N 0 2
  else if x.Op = 3 then inR x.N 3 5
  else if x.Op = 4 then inR x.N 6 13
  else if x.Op = 5 ∨ x.Op = 6 then inR x.N (i + 1) n
  else false := by unfold insOK; rw [if_neg h, if_neg (by rw [hv]; simp)]
def bA (a b : Int) : Int := wr .u64 ((BitVec.ofInt IntKind.u64.bits a &&& BitVec.ofInt IntKind.u64.bits b).toNat)
def sR (a : Int) : Int := a.fdiv (2 ^ (min (32 : Int).toNat IntKind.u64.bits))
def mU (a b : Int) : Int := wr .u64 (a * b)
def aU (a b : Int) : Int := wr .u64 (a + b)
def mul64a (m : Int) : Int :=
  let t6 := bA 1 4294967295; let t7 := sR 1; let t8 := bA m 4294967295; let t9 := sR m
  let t11 := aU (mU t7 t8) (sR (mU t6 t8)); let t12 := aU (bA t11 4294967295) (mU t6 t9)
  aU (aU (mU t7 t9) (sR t11)) (sR t12)
theorem mul64_c : ∀ m : Nat, m < 101 → mul64a m = 0 ∧ mU 1 m = m ∧ wr .u64 (m : Int) = m ∧ wr .i64 (m : Int) = m := by decide +kernel
theorem mul64_r {m : Nat} (hm : m < 101) : AV.tup [.d (.int .u64 (mul64a m)), .d (.int .u64 (mU 1 m))] = .tup [.d (.int .u64 0), .d (.int .u64 m)] := by
  rw [(mul64_c m hm).1, (mul64_c m hm).2.1]
theorem u64_of {m : Nat} (hm : m < 101) : AV.d (.int .u64 (wr .u64 (m : Int))) = .d (.int .u64 m) := by rw [(mul64_c m hm).2.2.1]
theorem i64_of {m : Nat} (hm : m < 101) : AV.d (.int .i64 (wr .i64 (m : Int))) = .d (.int .i64 m) := by rw [(mul64_c m hm).2.2.2]
theorem tosAt {ts : List Int} {j : Nat} {t : Int} (h : ts[j]? = some t) : (ts.map intRow)[j]? = some (intRow t) := by rw [List.getElem?_map, h]; rfl
theorem maxK_all {ds : List Int} : maxK ds ds.length = maxL ds := by unfold maxK maxL; rw [List.take_length]
theorem noisl_rep {q : Int} {m : Nat} : noIslO (.rows 1 (List.replicate m (intRow q))) := by
  intro r hr x hx
  rw [List.eq_of_mem_replicate hr, intRow, List.mem_singleton] at hx
  subst hx; rfl
section
variable {n : Int} {k : Nat} {x : GIns} {ds : List Int}
theorem stepK_1 (h : ds.getD k 0 < 0) : stepH n k x ds = none := stepH_1 (i := (k : Int)) h
theorem stepK_2 (h : insOK x k n = false) : stepH n k x ds = none := stepH_2 (i := (k : Int)) h
theorem stepK_3 (h : ds.getD k 0 < lowI x ∨ 60 < behI x (ds.getD k 0)) : stepH n k x ds = none := stepH_3 (i := (k : Int)) h
theorem stepK_4 (h1 : ¬ ds.getD k 0 < 0) (h2 : insOK x k n = true) (h3 : ¬ ds.getD k 0 < lowI x) (h4 : ¬ 60 < behI x (ds.getD k 0)) : stepH n k x ds = putL (behI x (ds.getD k 0)) ds (tosI x k) := stepH_4 (i := (k : Int)) h1 h2 h3 h4
end
/-! As the reference does it. -/
def initD (n i : Nat) : List Int := (0 :: List.replicate i (-1)) ++ List.replicate (n - i) 0
theorem initD_0 {n : Nat} : (initD n 0).map intRow = List.replicate (n + 1) (intRow 0) := by
  unfold initD; rw [Nat.sub_zero]; simp [List.replicate_succ]
theorem initD_n {n : Nat} : initD n n = 0 :: List.replicate n (-1) := by unfold initD; simp
theorem initD_len {n i : Nat} (h : i ≤ n) : (initD n i).length = n + 1 := by unfold initD; simp; omega
theorem initD_set {n i : Nat} (h : i < n) : (initD n i).set (i + 1) (-1) = initD n (i + 1) := by
  unfold initD
  have hl : (0 :: List.replicate i (-1 : Int)).length = i + 1 := by simp
  rw [List.set_append_right _ _ (by rw [hl]; exact Nat.le_refl _), hl, Nat.sub_self, show n - i = (n - (i + 1)) + 1 from by omega, List.replicate_succ, List.set_cons_zero, List.replicate_succ' (n := i), List.cons_append, List.cons_append, List.append_assoc]
  rfl
section
variable {n b : Int} {k : Nat} {x : GIns} {ds ds' : List Int}
theorem stepS_no (h1 : ¬ ds.getD k 0 < 0) (h2 : insOK x k n = true) (h3 : ¬ ds.getD k 0 < lowI x) (hb : behI x (ds.getD k 0) = b) (ht : tosI x (k : Int) = [(k : Int) + 1])
    (h : 60 < b ∨ (0 ≤ ds.getD (k + 1) 0 ∧ ¬ ds.getD (k + 1) 0 = b)) : stepH n k x ds = none := by
  by_cases h4 : 60 < b
  · exact stepK_3 (.inr (by rw [hb]; exact h4))
  · rw [stepK_4 h1 h2 h3 (by rw [hb]; exact h4), hb, ht, putL, put1_no (t := (k : Int) + 1) (by
      rcases h with h | h
      · exact absurd h h4
      · exact h)]
theorem stepS_ok (h1 : ¬ ds.getD k 0 < 0) (h2 : insOK x k n = true) (h3 : ¬ ds.getD k 0 < lowI x) (hb : behI x (ds.getD k 0) = b) (ht : tosI x (k : Int) = [(k : Int) + 1])
    (h : ¬ 60 < b ∧ (¬ 0 ≤ ds.getD (k + 1) 0 ∨ ds.getD (k + 1) 0 = b)) : stepH n k x ds = some (ds.set (k + 1) b) := by
  rw [stepK_4 h1 h2 h3 (by rw [hb]; exact h.1), hb, ht, putL, put1_ok (t := (k : Int) + 1) h.2]
  rfl
theorem stepJ_no1 (h1 : ¬ ds.getD k 0 < 0) (h2 : insOK x k n = true) (h3 : ¬ ds.getD k 0 < lowI x) (hb : behI x (ds.getD k 0) = b) (ht : tosI x (k : Int) = [(k : Int) + 1, x.N]) (hk : k + 1 < ds.length) (hx : x.N.toNat < ds.length)
    (h : 0 ≤ ds.getD x.N.toNat 0 ∧ ¬ ds.getD x.N.toNat 0 = b) : stepH n k x ds = none := by
  by_cases h4 : 60 < b
  · exact stepK_3 (.inr (by rw [hb]; exact h4))
  · rw [stepK_4 h1 h2 h3 (by rw [hb]; exact h4), hb, ht, put_swap (by omega) hx, putL, put1_no h]
theorem stepJ_no2 (h1 : ¬ ds.getD k 0 < 0) (h2 : insOK x k n = true) (h3 : ¬ ds.getD k 0 < lowI x) (hb : behI x (ds.getD k 0) = b) (ht : tosI x (k : Int) = [(k : Int) + 1, x.N]) (hk : k + 1 < ds.length) (hx : x.N.toNat < ds.length)
    (hp : ¬ 0 ≤ ds.getD x.N.toNat 0 ∨ ds.getD x.N.toNat 0 = b) (h : 60 < b ∨ (0 ≤ (ds.set x.N.toNat b).getD (k + 1) 0 ∧ ¬ (ds.set x.N.toNat b).getD (k + 1) 0 = b)) : stepH n k x ds = none := by
  by_cases h4 : 60 < b
  · exact stepK_3 (.inr (by rw [hb]; exact h4))
  · rw [stepK_4 h1 h2 h3 (by rw [hb]; exact h4), hb, ht, put_swap (by omega) hx, putL, put1_ok hp]
    dsimp only
    rw [putL, put1_no (t := (k : Int) + 1) (by
      rcases h with h | h
      · exact absurd h h4
      · exact h)]
theorem stepJ_ok (h1 : ¬ ds.getD k 0 < 0) (h2 : insOK x k n = true) (h3 : ¬ ds.getD k 0 < lowI x) (hb : behI x (ds.getD k 0) = b) (ht : tosI x (k : Int) = [(k : Int) + 1, x.N]) (hk : k + 1 < ds.length) (hx : x.N.toNat < ds.length)
    (hp : ¬ 0 ≤ ds.getD x.N.toNat 0 ∨ ds.getD x.N.toNat 0 = b) (h : ¬ 60 < b ∧ (¬ 0 ≤ (ds.set x.N.toNat b).getD (k + 1) 0 ∨ (ds.set x.N.toNat b).getD (k + 1) 0 = b)) : stepH n k x ds = some ((ds.set x.N.toNat b).set (k + 1) b) := by
  rw [stepK_4 h1 h2 h3 (by rw [hb]; exact h.1), hb, ht, put_swap (by omega) hx, putL, put1_ok hp]
  dsimp only
  rw [putL, put1_ok (t := (k : Int) + 1) h.2]
  rfl
end
def depC (l : List GIns) : Int := match depths l with
  | none => 0
  | some ds => maxL ds
theorem depC_of {l : List GIns} {ds : List Int} (h : runH l l.length = some ds) : depC l = maxL ds := by unfold depC depths; rw [h]
theorem maxK_0 {ds : List Int} : maxK ds 0 = 0 := by unfold maxK; simp
section
variable {x : GIns} {i n : Int}
def insR (x : GIns) (i n : Int) : Bool := if x.Op = 2 then inR x.N 0 2
  else if x.Op = 3 then inR x.N 3 5
  else if x.Op = 4 then inR x.N 6 13
  else if x.Op = 5 ∨ x.Op = 6 then inR x.N (i + 1) n
  else false
theorem insOK_or (h : ¬ x.Op = 1) (hh : insR x i n = false ∨ zeroV x.V = false) : insOK x i n = false := by
  cases hz : zeroV x.V with
  | false => exact insOK_z h hz
  | true =>
    rw [insOK_v h hz]
    rcases hh with hh | hh
    · exact hh
    · rw [hz] at hh; cases hh
theorem insOK_rest2 (h : x.Op = 2) : insR x i n = inR x.N 0 2 := by unfold insR; rw [if_pos h]
theorem insOK_rest3 (h : ¬ x.Op = 2) (h2 : x.Op = 3) : insR x i n = inR x.N 3 5 := by unfold insR; rw [if_neg h, if_pos h2]
theorem insOK_rest4 (h : ¬ x.Op = 2) (h2 : ¬ x.Op = 3) (h3 : x.Op = 4) : insR x i n = inR x.N 6 13 := by unfold insR; rw [if_neg h, if_neg h2, if_pos h3]
theorem insOK_rest5 (h : ¬ x.Op = 2) (h2 : ¬ x.Op = 3) (h3 : ¬ x.Op = 4) (h4 : x.Op = 5 ∨ x.Op = 6) : insR x i n = inR x.N (i + 1) n := by unfold insR; rw [if_neg h, if_neg h2, if_neg h3, if_pos h4]
theorem insOK_no (h : ¬ x.Op = 1) (h1 : ¬ x.Op = 2) (h2 : ¬ x.Op = 3) (h3 : ¬ x.Op = 4) (h4 : ¬ x.Op = 5) (h5 : ¬ x.Op = 6) : insOK x i n = false :=
  insOK_or h (.inl (by unfold insR; rw [if_neg h1, if_neg h2, if_neg h3, if_neg (by omega)]))
end
def depF (l : List GIns) : Int × Int := if 4096 < l.length then (0, 2) else if codeOK l = false then (0, 1) else (depC l, 0)
theorem depF_0 {l : List GIns} (h : 4096 < l.length) : depF l = (0, 2) := by unfold depF; rw [if_pos h]
theorem depF_1 {l : List GIns} (h : ¬ 4096 < l.length) (h1 : codeOK l = false) : depF l = (0, 1) := by unfold depF; rw [if_neg h, if_pos h1]
theorem depF_2 {l : List GIns} (h : ¬ 4096 < l.length) (h1 : codeOK l = true) : depF l = (depC l, 0) := by unfold depF; rw [if_neg h, if_neg (by rw [h1]; simp)]
theorem codeOK_len {l : List GIns} (h : codeOK l = true) : l.length ≤ 80 := by
  unfold codeOK at h; rw [Bool.and_eq_true] at h; exact of_decide_eq_true h.1
theorem ins_sz {l : List GIns} {n : Nat} (h : szL GIns.sz l ≤ n) : l.length ≤ n ∧ ∀ x ∈ l, x.V.T.length ≤ n := by
  have h1 := @szL_len _ GIns.sz l
  refine ⟨by omega, fun x hx => ?_⟩
  have h2 := szL_mem (f := GIns.sz) hx
  have h3 : GIns.sz x = x.V.T.length := rfl
  omega
end Go.AM

/- Plain laws: what expressions mean. -/
namespace Go.AM
def vI (n : Int) : GValue := ⟨1, n, []⟩
def vB (b : Bool) : GValue := vI (bitI b)
abbrev VC := GValue × Int
def eqV (a b : GValue) : Bool := decide (a.Kind = b.Kind) && (decide (a.N = b.N) && (decide (a.T = b.T) && true))
theorem eqV_eq {a b : GValue} : eqb a b = eqV a b := by
  rw [Bool.eq_iff_iff, eqb_iff, GValue.eq_iff]; unfold eqV; simp
def cmpS (a b : Str) : Int := if a = b then 0 else if Op.bytesLess a b = true then -1 else 1
def cmpI (a b : Int) : Int := if a = b then 0 else if a < b then -1 else 1
def cmpV (a b : GValue) : Int := if a.Kind ≠ b.Kind then cmpI a.Kind b.Kind else if a.N ≠ b.N then cmpI a.N b.N else cmpS a.T b.T
def unF (op : Int) (a : GValue) : VC :=
  if op = 4 then (vB (decide (a.Kind = 0)), 0)
  else if a.Kind = 2 then (.zero, 10)
  else if a.Kind = 0 then (.zero, 0)
  else if op = 3 then (vB (decide (a.N = 0)), 0)
  else (vI (-a.N), 0)
def isZ (v : GValue) : Bool := decide (v.Kind = 1) && decide (v.N = 0)
def isO (v : GValue) : Bool := decide (v.Kind = 1) && !decide (v.N = 0)
def conF (op : Int) (a b : GValue) : VC :=
  if a.Kind = 2 ∨ b.Kind = 2 then (.zero, 10)
  else if op = 12 ∧ (isZ a = true ∨ isZ b = true) then (vI 0, 0)
  else if op = 13 ∧ (isO a = true ∨ isO b = true) then (vI 1, 0)
  else if a.Kind = 0 ∨ b.Kind = 0 then (.zero, 0)
  else (vB (decide (op = 12)), 0)
def bndF (n : Int) : VC := if inR n (-1000000000) 1000000000 = true then (vI n, 0) else (.zero, 12)
def ariF (op a b : Int) : VC :=
  if op = 6 then bndF (a + b) else if op = 7 then bndF (a - b) else if op = 8 then bndF (a * b)
  else if b = 0 then (.zero, 11) else bndF (a.tdiv b)
def binF (op : Int) (a b : GValue) : VC :=
  if op = 12 ∨ op = 13 then conF op a b
  else if ¬ (op = 10 ∨ op = 11) ∧ (a.Kind = 2 ∨ b.Kind = 2) then (.zero, 10)
  else if a.Kind = 0 ∨ b.Kind = 0 then (.zero, 0)
  else if a.Kind ≠ b.Kind then (.zero, 10)
  else if op = 10 then (vB (eqV a b), 0)
  else if op = 11 then (vB (decide (cmpV a b < 0)), 0)
  else ariF op a.N b.N
def colF (r : GRow) (k : Int) : GValue := if k = 0 then vI r.Id else if k = 1 then r.N else r.Name
def evalF (ns : List GExprNode) (r : GRow) : Nat → Int → VC
  | 0, _ => (.zero, 0)
  | f + 1, i => match ns[i.toNat]? with
    | none => (.zero, 0)
    | some x => if x.Op = 1 then (x.V, 0) else if x.Op = 2 then (colF r x.Column, 0)
      else if (evalF ns r f x.A).2 ≠ 0 then (.zero, (evalF ns r f x.A).2)
      else if x.Op ≤ 5 then unF x.Op (evalF ns r f x.A).1
      else if x.Op = 12 ∧ isZ (evalF ns r f x.A).1 = true then (vI 0, 0)
      else if x.Op = 13 ∧ isO (evalF ns r f x.A).1 = true then (vI 1, 0)
      else if (evalF ns r f x.B).2 ≠ 0 then (.zero, (evalF ns r f x.B).2)
      else binF x.Op (evalF ns r f x.A).1 (evalF ns r f x.B).1
/-! Right values. -/
structure RV (v : GValue) : Prop where
  k : v.Kind = 0 ∨ v.Kind = 1 ∨ v.Kind = 2
  z : v.Kind = 0 → v = .zero
  n : -1000000000 ≤ v.N ∧ v.N ≤ 1000000000
  t : v.Kind = 1 → v.T = []
  l : v.T.length ≤ 1048576
theorem RV.zero : RV .zero := ⟨.inl rfl, fun _ => rfl, by decide, fun h => rfl, Nat.zero_le _⟩
theorem RV.vI {n : Int} (h : -1000000000 ≤ n ∧ n ≤ 1000000000) : RV (vI n) := ⟨.inr (.inl rfl), fun h => absurd h (show ¬ (1 : Int) = 0 from by decide), h, fun _ => rfl, Nat.zero_le _⟩
theorem RV.vB {b : Bool} : RV (vB b) := .vI (by cases b <;> decide)
theorem RV.of {v : GValue} (h : valueOK v = true) : RV v := by
  by_cases h0 : v.Kind = 0
  · rw [valueOK_0 h0] at h
    simp only [Bool.and_eq_true, decide_eq_true_eq] at h
    have : v = .zero := GValue.eq_iff.2 ⟨h0, h.1, h.2⟩
    rw [this]; exact .zero
  · by_cases h1 : v.Kind = 1
    · rw [valueOK_1 h1] at h
      simp only [Bool.and_eq_true, decide_eq_true_eq, inR_iff] at h
      exact ⟨.inr (.inl h1), fun h => absurd h h0, h.1, fun _ => h.2, by rw [h.2]; exact Nat.zero_le _⟩
    · rw [valueOK_2 h0 h1] at h
      simp only [Bool.and_eq_true, decide_eq_true_eq] at h
      obtain ⟨⟨h2, h3⟩, h4⟩ := h
      unfold isWord at h4
      simp only [Bool.and_eq_true, decide_eq_true_eq] at h4
      refine ⟨.inr (.inr h2), fun h => absurd h h0, ?_, fun h => absurd h h1, by omega⟩
      show -1000000000 ≤ v.N ∧ v.N ≤ 1000000000
      omega
theorem RV.eqZ {v : GValue} (h : RV v) : eqb v (Go.AM.vI 0) = isZ v := by
  rw [Bool.eq_iff_iff, eqb_iff, GValue.eq_iff]
  unfold isZ
  simp only [Bool.and_eq_true, decide_eq_true_eq, Go.AM.vI]
  constructor
  · rintro ⟨a, b, c⟩; exact ⟨a, b⟩
  · rintro ⟨a, b⟩; exact ⟨a, b, h.t a⟩
theorem unF_rv {op : Int} {a : GValue} (h : RV a) : RV (unF op a).1 := by
  unfold unF
  split
  · exact .vB
  · split
    · exact .zero
    · split
      · exact .zero
      · split
        · exact .vB
        · exact .vI (by have := h.n; omega)
theorem conF_rv {op : Int} {a b : GValue} : RV (conF op a b).1 := by
  unfold conF
  repeat' split
  all_goals first | exact .zero | exact .vB | exact .vI (by decide)
theorem bndF_rv {n : Int} : RV (bndF n).1 := by
  unfold bndF; split
  · rename_i h; exact .vI (inR_iff.1 h)
  · exact .zero
theorem ariF_rv {op a b : Int} : RV (ariF op a b).1 := by
  unfold ariF
  repeat' split
  all_goals first | exact .zero | exact bndF_rv
theorem binF_rv {op : Int} {a b : GValue} : RV (binF op a b).1 := by
  unfold binF
  repeat' split
  all_goals first | exact conF_rv | exact .zero | exact .vB | exact ariF_rv
structure RR (r : GRow) : Prop where
  i : 0 ≤ r.Id ∧ r.Id ≤ 1000
  n : RV r.N
  m : RV r.Name
theorem RR.of {r : GRow} (h : rowOK r = true) : RR r := by
  unfold rowOK at h
  simp only [Bool.and_eq_true, inR_iff] at h
  exact ⟨h.1.1.1.1, .of h.1.1.1.2, .of h.1.1.2⟩
theorem colF_rv {r : GRow} {k : Int} (h : RR r) : RV (colF r k) := by
  unfold colF; split
  · exact .vI (by have := h.i; omega)
  · split
    · exact h.n
    · exact h.m
/-! What the nodes of a right expression hold. -/
theorem nodeW_V {rec : Int → W3} {i : Int} {x : GExprNode} (h : (nodeW rec i x).2.2 = true) : RV x.V ∧ (x.Op = 2 → 0 ≤ x.Column ∧ x.Column ≤ 2) := by
  unfold nodeW at h
  have hz : ∀ {v : GValue}, zeroV v = true → RV v := fun {v} hv => by
    unfold zeroV at hv
    simp only [Bool.and_eq_true, decide_eq_true_eq, and_true] at hv
    have : v = .zero := GValue.eq_iff.2 hv
    rw [this]; exact .zero
  split at h
  · rename_i h1
    simp only [Bool.and_eq_true] at h
    exact ⟨.of h.2, fun e => by omega⟩
  · split at h
    · simp only [Bool.and_eq_true] at h
      exact ⟨hz h.2, fun _ => inR_iff.1 h.1.2⟩
    · rename_i h2
      split at h
      · simp only [Bool.and_eq_true] at h
        exact ⟨hz h.2, fun e => absurd e h2⟩
      · split at h
        · split at h
          · cases h
          · simp only [Bool.and_eq_true] at h
            exact ⟨hz h.2, fun e => absurd e h2⟩
        · cases h
theorem T_V {ns : List GExprNode} {j : Nat} (hj : j < ns.length) (ht : (T ns (j : Int)).2.2 = true) : RV ns[j].V ∧ (ns[j].Op = 2 → 0 ≤ ns[j].Column ∧ ns[j].Column ≤ 2) := by
  rw [T_at hj] at ht
  exact nodeW_V ht
section
variable {ns : List GExprNode} {r : GRow} {f : Nat} {j : Nat}
theorem evalF_1 (hj : j < ns.length) (h : ns[j].Op = 1) : evalF ns r (f + 1) (j : Int) = (ns[j].V, 0) := by
  rw [evalF, show ((j : Int)).toNat = j from by omega, List.getElem?_eq_getElem hj]; simp only [if_pos h]
theorem evalF_2 (hj : j < ns.length) (h : ¬ ns[j].Op = 1) (h2 : ns[j].Op = 2) : evalF ns r (f + 1) (j : Int) = (colF r ns[j].Column, 0) := by
  rw [evalF, show ((j : Int)).toNat = j from by omega, List.getElem?_eq_getElem hj]; simp only [if_neg h, if_pos h2]
theorem evalF_3 (hj : j < ns.length) (h : ¬ ns[j].Op = 1) (h2 : ¬ ns[j].Op = 2) (h3 : ¬ (evalF ns r f ns[j].A).2 = 0) : evalF ns r (f + 1) (j : Int) = (.zero, (evalF ns r f ns[j].A).2) := by
  rw [evalF, show ((j : Int)).toNat = j from by omega, List.getElem?_eq_getElem hj]; simp only [if_neg h, if_neg h2, if_pos h3, ne_eq, not_false_eq_true]
theorem evalF_4 (hj : j < ns.length) (h : ¬ ns[j].Op = 1) (h2 : ¬ ns[j].Op = 2) (h3 : (evalF ns r f ns[j].A).2 = 0) (h4 : ns[j].Op ≤ 5) : evalF ns r (f + 1) (j : Int) = unF ns[j].Op (evalF ns r f ns[j].A).1 := by
  rw [evalF, show ((j : Int)).toNat = j from by omega, List.getElem?_eq_getElem hj]
  dsimp only
  rw [if_neg h, if_neg h2, if_neg (by rw [h3]; simp), if_pos h4]
theorem evalF_r (hj : j < ns.length) (h : ¬ ns[j].Op = 1) (h2 : ¬ ns[j].Op = 2) (h3 : (evalF ns r f ns[j].A).2 = 0) (h4 : ¬ ns[j].Op ≤ 5) : evalF ns r (f + 1) (j : Int) =
      if ns[j].Op = 12 ∧ isZ (evalF ns r f ns[j].A).1 = true then (vI 0, 0)
      else if ns[j].Op = 13 ∧ isO (evalF ns r f ns[j].A).1 = true then (vI 1, 0)
      else if (evalF ns r f ns[j].B).2 ≠ 0 then (.zero, (evalF ns r f ns[j].B).2)
      else binF ns[j].Op (evalF ns r f ns[j].A).1 (evalF ns r f ns[j].B).1 := by
  rw [evalF, show ((j : Int)).toNat = j from by omega, List.getElem?_eq_getElem hj]
  dsimp only
  rw [if_neg h, if_neg h2, if_neg (by rw [h3]; simp), if_neg h4]
end
def evF (e : GExpr) (r : GRow) : VC := if exprOK e = true ∧ rowOK r = true then evalF e.Nodes r (e.Nodes.length + 1) ((e.Nodes.length : Int) - 1) else (.zero, 1)
theorem isZ_iff {v : GValue} : isZ v = true ↔ v.Kind = 1 ∧ v.N = 0 := by unfold isZ; simp
theorem isO_iff {v : GValue} : isO v = true ↔ v.Kind = 1 ∧ ¬ v.N = 0 := by unfold isO; simp
theorem nAO {p : Prop} {a : Bool} (h : ¬ p ∨ a = false) : ¬ (p ∧ a = true) := fun e => h.elim (fun h => h e.1) (fun h => by rw [h] at e; cases e.2)
theorem nAOO {p : Prop} {a b : Bool} (h : ¬ p ∨ (a = false ∧ b = false)) : ¬ (p ∧ (a = true ∨ b = true)) := fun e => h.elim (fun h => h e.1) (fun h => e.2.elim (fun x => by rw [h.1] at x; cases x) (fun x => by rw [h.2] at x; cases x))
theorem less_irr : ∀ (a : Str), Op.bytesLess a a = false
  | [] => rfl
  | a :: x => by rw [Op.bytesLess, less_irr x]; simp
theorem cmpS_lt {a b : Str} (h : Op.bytesLess a b = true) : cmpS a b = -1 := by
  unfold cmpS
  rw [if_neg (fun e => by rw [e, less_irr] at h; cases h), if_pos h]
theorem cmpS_gt {a b : Str} (h : (!(Op.bytesLess a b || decide (a = b))) = true) : cmpS a b = 1 := by
  have h := bT h
  rw [Bool.or_eq_false_iff] at h
  unfold cmpS
  rw [if_neg (of_decide_eq_false h.2), if_neg (by rw [h.1]; simp)]
theorem cmpS_eq {a b : Str} (h0 : Op.bytesLess a b = false) (h : (!(Op.bytesLess a b || decide (a = b))) = false) : cmpS a b = 0 := by
  have h := bF h
  rw [h0, Bool.false_or] at h
  unfold cmpS; rw [if_pos (of_decide_eq_true h)]
theorem cmpS_ne {a b : Str} (h : ¬ a = b) : cmpS a b = 2 * bitI (!(Op.bytesLess a b || decide (a = b))) - 1 := by
  unfold cmpS
  rw [if_neg h, decide_eq_false h, Bool.or_false]
  cases Op.bytesLess a b <;> rfl
theorem cmpI_ne {a b : Int} (h : ¬ a = b) : cmpI a b = 2 * bitI (decide (b < a)) - 1 := by
  unfold cmpI
  rw [if_neg h]
  by_cases h1 : a < b
  · rw [if_pos h1, decide_eq_false (by omega)]; rfl
  · rw [if_neg h1, decide_eq_true (by omega)]; rfl
def orF : List Int → Int
  | [] => 0
  | x :: xs => if x ≠ 0 then x else orF xs
theorem orF_hit {xs : List Int} {k : Nat} (h : k < xs.length) (hb : ∀ j, j < k → ∀ x, xs[j]? = some x → x = 0) (hx : ¬ xs[k] = 0) : orF xs = xs[k] := by
  induction xs generalizing k with
  | nil => exact absurd h (by simp)
  | cons y ys ih =>
    cases k with
    | zero => rw [orF, if_pos (by simpa using hx)]; rfl
    | succ k =>
      have := hb 0 (by omega) y rfl
      rw [orF, if_neg (by simp [this]), ih (k := k) (by simpa using h) (fun j hj x hx => hb (j + 1) (by omega) x (by simpa using hx)) (by simpa using hx)]
      rfl
theorem orF_none {xs : List Int} (hb : ∀ j, j < xs.length → ∀ x, xs[j]? = some x → x = 0) : orF xs = 0 := by
  induction xs with
  | nil => rfl
  | cons y ys ih =>
    have := hb 0 (by simp) y rfl
    rw [orF, if_neg (by simp [this]), ih (fun j hj x hx => hb (j + 1) (by simpa using hj) x (by simpa using hx))]
theorem bitI_bb {b : Bool} : 0 ≤ bitI b ∧ bitI b ≤ 1 := by cases b <;> decide
theorem cmpI_z {a b : Int} : cmpI a b = 0 ↔ a = b := by
  unfold cmpI
  constructor
  · intro h
    by_cases e : a = b
    · exact e
    · rw [if_neg e] at h; split at h <;> cases h
  · intro h; rw [if_pos h]
theorem cmpV_or {a b : GValue} : orF [cmpI a.Kind b.Kind, cmpI a.N b.N, cmpS a.T b.T] = cmpV a b := by
  unfold cmpV
  by_cases h : a.Kind = b.Kind
  · rw [orF, if_neg (by rw [cmpI_z.2 h]; simp), if_neg (by simpa using h)]
    by_cases h2 : a.N = b.N
    · rw [orF, if_neg (by rw [cmpI_z.2 h2]; simp), if_neg (by simpa using h2), orF, orF]
      split
      · rfl
      · rename_i h3; exact (Decidable.not_not.1 h3).symm
    · rw [orF, if_pos (fun e => h2 (cmpI_z.1 e)), if_pos h2]
  · rw [orF, if_pos (fun e => h (cmpI_z.1 e)), if_pos h]
theorem mulB {a b : Int} (ha : -1000000000 ≤ a ∧ a ≤ 1000000000) (hb : -1000000000 ≤ b ∧ b ≤ 1000000000) : -1000000000000000000 ≤ a * b ∧ a * b ≤ 1000000000000000000 := by
  have h : (a * b).natAbs ≤ 1000000000 * 1000000000 := by
    rw [Int.natAbs_mul]
    exact Nat.mul_le_mul (by omega) (by omega)
  omega
theorem tdivB {a b : Int} (ha : -1000000000 ≤ a ∧ a ≤ 1000000000) : -1000000000 ≤ a.tdiv b ∧ a.tdiv b ≤ 1000000000 := by
  have h : (a.tdiv b).natAbs ≤ a.natAbs := by
    rw [Int.natAbs_tdiv]; exact Nat.div_le_self _ _
  omega
section
variable {op a b n : Int}
theorem ari_6 (h : op = 6) : ariF op a b = bndF (a + b) := by unfold ariF; rw [if_pos h]
theorem ari_7 (h : op = 7) : ariF op a b = bndF (a - b) := by unfold ariF; rw [if_neg (by omega), if_pos h]
theorem ari_8 (h : op = 8) : ariF op a b = bndF (a * b) := by unfold ariF; rw [if_neg (by omega), if_neg (by omega), if_pos h]
theorem ari_0 (h : ¬ op = 6) (h1 : ¬ op = 7) (h2 : ¬ op = 8) (h3 : b = 0) : ariF op a b = (.zero, 11) := by unfold ariF; rw [if_neg h, if_neg h1, if_neg h2, if_pos h3]
theorem ari_d (h : ¬ op = 6) (h1 : ¬ op = 7) (h2 : ¬ op = 8) (h3 : ¬ b = 0) : ariF op a b = bndF (a.tdiv b) := by unfold ariF; rw [if_neg h, if_neg h1, if_neg h2, if_neg h3]
theorem bnd_no (h : inR n (-1000000000) 1000000000 = false) : bndF n = (.zero, 12) := by unfold bndF; rw [if_neg (by rw [h]; simp)]
theorem bnd_yes (h : inR n (-1000000000) 1000000000 = true) : bndF n = (vI n, 0) := by unfold bndF; rw [if_pos h]
end
theorem colF_at {r : GRow} {k : Int} (hk : 0 ≤ k ∧ k ≤ 2) : AV.agg ((([int 1, int r.Id, .d (.str []), int r.N.Kind, int r.N.N, .d (.str r.N.T), int r.Name.Kind, int r.Name.N, .d (.str r.Name.T)] : List AV).drop (k.toNat * 3)).take 3) = (colF r k).av := by
  rcases (show k = 0 ∨ k = 1 ∨ k = 2 from by omega) with rfl | rfl | rfl <;> rfl
theorem evalF_rv {ns : List GExprNode} {r : GRow} (hr : RR r) : ∀ {f : Nat} {i : Int}, 0 ≤ i → i < f → i < ns.length → (T ns i).2.2 = true → RV (evalF ns r f i).1
  | 0, i, h, h1, _, _ => by omega
  | f + 1, i, h, h1, h2, ht => by
    obtain ⟨j, rfl⟩ : ∃ j : Nat, i = (j : Int) := ⟨i.toNat, by omega⟩
    have hj : j < ns.length := by omega
    have hv := T_V hj ht
    by_cases g1 : ns[j].Op = 1
    · rw [evalF_1 hj g1]; exact hv.1
    · by_cases g2 : ns[j].Op = 2
      · rw [evalF_2 hj g1 g2]; exact colF_rv hr
      · obtain ⟨⟨hA0, hA1, hAt, hAs⟩, hB⟩ := T_kids hj ht g1 g2
        have va := evalF_rv (r := r) hr (f := f) hA0 (by omega) (by omega) hAt
        by_cases g3 : (evalF ns r f ns[j].A).2 = 0
        · by_cases g4 : ns[j].Op ≤ 5
          · rw [evalF_4 hj g1 g2 g3 g4]; exact unF_rv va
          · rw [evalF_r hj g1 g2 g3 g4]
            repeat' split
            all_goals first | exact .vI (by decide) | exact .zero | exact binF_rv
        · rw [evalF_3 hj g1 g2 g3]; exact .zero
theorem evF_0 {e : GExpr} {r : GRow} (h : exprOK e = false ∨ rowOK r = false) : evF e r = (.zero, 1) := by
  unfold evF; rw [if_neg (fun g => h.elim (fun h => by rw [h] at g; cases g.1) (fun h => by rw [h] at g; cases g.2))]
theorem evF_1 {e : GExpr} {r : GRow} (h : exprOK e = true) (h1 : rowOK r = true) : evF e r = evalF e.Nodes r (e.Nodes.length + 1) ((e.Nodes.length : Int) - 1) := by
  unfold evF; rw [if_pos ⟨h, h1⟩]
end Go.AM

/- Plain laws: search in what is sorted; what is put in, and taken out. -/
namespace Go.AM
theorem oslcE {e sz s s' l l' c c' : Nat} (hs : s = s') (hl : l = l') (hc : c = c') : AV.oslc e sz s l c = .oslc e sz s' l' c' := by rw [hs, hl, hc]
theorem oslE0 {e sz s s' l l' : Nat} (hs : s = s') (hl : l = l') : AV.osl e sz s l = .osl e sz s' l' := by rw [hs, hl]
theorem u64N {n : Nat} (h : n ≤ 1000000000) : AV.d (.int .u64 (wr .u64 (n : Int))) = .d (.int .u64 n) := by
  have : wr .u64 (n : Int) = n := by
    unfold wr IntKind.wrap IntKind.signed IntKind.bits
    simp
    omega
  rw [this]
theorem i64N {n : Nat} (h : n ≤ 1000000000) : AV.d (.int .i64 (wr .i64 (n : Int))) = .d (.int .i64 n) := by rw [wr_ok (by omega) (by omega)]
theorem shrN {n : Nat} : AV.d (.int .u64 ((n : Int).fdiv (2 ^ (min (1 : Int).toNat IntKind.u64.bits)))) = .d (.int .u64 ((n / 2 : Nat) : Int)) := by
  have : (n : Int).fdiv (2 ^ (min (1 : Int).toNat IntKind.u64.bits)) = ((n / 2 : Nat) : Int) := by
    show (n : Int).fdiv (2 ^ 1) = _
    rw [Int.fdiv_eq_ediv_of_nonneg _ (by omega)]; omega
  rw [this]
section
variable {α : Type} {row : α → List D} {xs : List α} {x : α} {i : Nat}
def insA (xs : List α) (i : Nat) (x : α) : List α := xs.take i ++ x :: xs.drop i
def delA (xs : List α) (i : Nat) : List α := xs.take i ++ xs.drop (i + 1)
theorem insA_len (h : i ≤ xs.length) : (insA xs i x).length = xs.length + 1 := by unfold insA; simp; omega
theorem delA_len (h : i < xs.length) : (delA xs i).length = xs.length - 1 := by unfold delA; simp; omega
theorem ins_end (h : i = xs.length) : insA xs i x = xs ++ [x] := by subst h; unfold insA; simp
/-- Anew: what was copied. -/
theorem ins_g1 : (((xs.map row).drop 0).take i).take i ++ ((([x].map row)).drop 0).take 1 ++ (((xs.map row).drop 0).take i).drop (i + 1) = ((xs.take i ++ [x]).map row) := by
  have e : (((xs.map row).drop 0).take i).drop (i + 1) = [] := List.drop_eq_nil_of_le (by simp; omega)
  rw [e, List.drop_zero, List.take_take, Nat.min_self]
  simp [List.map_take]
theorem ins_g2 (h : i ≤ xs.length) : (((xs.take i ++ [x]).map row)).take (i + 1) ++ ((xs.map row).drop i).take (xs.length - i) ++ (((xs.take i ++ [x]).map row)).drop (i + 1 + (xs.length - i)) = (insA xs i x).map row := by
  have hl : ((xs.take i ++ [x]).map row).length = i + 1 := by simp; omega
  have e1 : ((xs.take i ++ [x]).map row).take (i + 1) = (xs.take i ++ [x]).map row := List.take_of_length_le (by omega)
  have e2 : ((xs.take i ++ [x]).map row).drop (i + 1 + (xs.length - i)) = [] := List.drop_eq_nil_of_le (by omega)
  have e3 : ((xs.map row).drop i).take (xs.length - i) = (xs.map row).drop i := List.take_of_length_le (by simp)
  rw [e1, e2, e3, List.append_nil]
  unfold insA
  simp [List.map_drop]
/-- In place. -/
theorem ins_i1 (h : i < xs.length) : (xs.map row).take (i + 1) ++ ((xs.map row).drop i).take (xs.length - i) ++ (xs.map row).drop (i + 1 + (xs.length - i)) = ((xs.take (i + 1) ++ xs.drop i).map row) := by
  rw [List.drop_eq_nil_of_le (as := xs.map row) (i := i + 1 + (xs.length - i)) (by simp; omega), List.append_nil, List.take_of_length_le (i := xs.length - i) (by simp)]
  simp [List.map_take, List.map_drop]
theorem ins_i2 (h : i < xs.length) : ((xs.take (i + 1) ++ xs.drop i).map row).take i ++ (([x].map row).drop 0).take 1 ++ ((xs.take (i + 1) ++ xs.drop i).map row).drop (i + 1) = (insA xs i x).map row := by
  have hl : (xs.take (i + 1)).length = i + 1 := by simp; omega
  have e1 : (xs.take (i + 1) ++ xs.drop i).take i = xs.take i := by
    rw [List.take_append_of_le_length (by omega), List.take_take, Nat.min_eq_left (by omega)]
  have e2 : ((xs.take (i + 1) ++ xs.drop i).map row).drop (i + 1) = (xs.drop i).map row := by rw [← List.map_drop, List.drop_left' hl]
  rw [e2, ← List.map_take, e1]
  unfold insA
  simp
theorem del_1 (h : i < xs.length) : (xs.map row).take i ++ ((xs.map row).drop (i + 1)).take (xs.length - (i + 1)) ++ (xs.map row).drop (i + (xs.length - (i + 1))) = (delA xs i).map row ++ (xs.map row).drop (xs.length - 1) := by
  rw [List.take_of_length_le (l := (xs.map row).drop (i + 1)) (by simp), show i + (xs.length - (i + 1)) = xs.length - 1 from by omega]
  unfold delA
  simp [List.map_take, List.map_drop]
end
theorem cmpI_lt {a b : Int} : cmpI a b < 0 ↔ a < b := by unfold cmpI; split <;> (try split) <;> omega
theorem del_2 {α : Type} {row : α → List D} {xs : List α} {i k : Nat} {z : List D} (hi : i < xs.length) : ∃ more, ((delA xs i).map row ++ (xs.map row).drop (xs.length - 1)).take (xs.length - 1) ++ List.replicate 1 z ++ ((delA xs i).map row ++ (xs.map row).drop (xs.length - 1)).drop k = (delA xs i).map row ++ more := by
  have hl : ((delA xs i).map row).length = xs.length - 1 := by rw [List.length_map, delA_len hi]
  rw [List.take_left' hl, List.append_assoc]
  exact ⟨_, rfl⟩
theorem refs_cons2 {x y : AV} (h : refsIn [] x = true) (h2 : refsIn [] y = true) (ds : List D) : refsInL [] (x :: y :: ds.map AV.d) = true := by rw [refsInL, h, refsInL, h2, refs_map]; rfl
def hitA {α : Type} (p : α → Int) (xs : List α) (k : Nat) : Bool := match xs[k]? with
  | some s => decide (p s = 0)
  | none => false
theorem hitA_1 {α : Type} {p : α → Int} {xs : List α} {k : Nat} (h : k < xs.length) : hitA p xs k = decide (p xs[k] = 0) := by unfold hitA; rw [List.getElem?_eq_getElem h]
theorem hitA_2 {α : Type} {p : α → Int} {xs : List α} {k : Nat} (h : ¬ k < xs.length) : hitA p xs k = false := by unfold hitA; rw [List.getElem?_eq_none (by omega)]
theorem hitA_and {α : Type} {p : α → Int} {xs : List α} {k : Nat} : (decide ((k : Int) < (xs.length : Int)) && hitA p xs k) = hitA p xs k := by
  by_cases h : k < xs.length
  · rw [decide_eq_true (by omega)]; rfl
  · rw [hitA_2 h, Bool.and_false]
end Go.AM

/- Plain laws: disks, what a crash keeps. -/
namespace Go.AM
def badAt (n : Nat) (p : GPending) : Bool := !inR p.At 0 ((n : Int) - 1) || decide (160 < (p.Data.length : Int))
def long160 (s : Str) : Bool := decide (160 < (s.length : Int))
def long64 (s : Str) : Bool := decide (65536 < (s.length : Int))
def badHead (d : GDisk) : Bool := ((!inR (d.Sectors.length : Int) 1 100 || decide (500 < (d.Cache.length : Int))) || decide (500 < (d.Keep.length : Int))) || (!d.Armed && decide (0 < (d.Keep.length : Int)))
def diskOK (d : GDisk) : Bool := !badHead d && (!d.Sectors.any long160 && !d.Cache.any (badAt d.Sectors.length))
theorem diskOK_head {d : GDisk} (h : diskOK d = true) : d.Sectors.length ≤ 100 ∧ d.Cache.length ≤ 500 ∧ d.Keep.length ≤ 500 := by
  unfold diskOK badHead inR at h
  simp only [Bool.and_eq_true, Bool.not_eq_true', Bool.or_eq_false_iff, decide_eq_false_iff_not, Bool.not_eq_false', decide_eq_true_eq] at h
  omega
theorem diskOK_at {d : GDisk} (h : diskOK d = true) : ∀ p ∈ d.Cache, 0 ≤ p.At ∧ p.At.toNat < d.Sectors.length := fun p hp => by
  unfold diskOK at h
  simp only [Bool.and_eq_true, Bool.not_eq_true'] at h
  have h1 : badAt d.Sectors.length p = false := by
    cases hh : badAt d.Sectors.length p with
    | false => rfl
    | true => exact absurd (List.any_eq_true.2 ⟨p, hp, hh⟩) (by rw [h.2.2]; simp)
  unfold badAt inR at h1
  simp only [Bool.or_eq_false_iff, Bool.not_eq_false', Bool.and_eq_true, decide_eq_true_eq] at h1
  omega
theorem getD_atI {l : List Int} {i : Nat} (h : i < l.length) : l.getD i 0 = l[i] := by simp [List.getD, h]
def putP (S : List Str) (p : GPending) : List Str := S.set p.At.toNat p.Data
def keepAt (keep : List Int) (k : Nat) : Bool := decide ((k : Int) < (keep.length : Int)) && !decide (keep.getD k 0 = 0)
def keptTo (S : List Str) (ps : List GPending) (keep : List Int) : Nat → List Str
  | 0 => S
  | k + 1 => match ps[k]? with
    | none => keptTo S ps keep k
    | some p => bif keepAt keep k then putP (keptTo S ps keep k) p else keptTo S ps keep k
theorem keptTo_len {S : List Str} {ps : List GPending} {keep : List Int} : ∀ {k : Nat}, (keptTo S ps keep k).length = S.length
  | 0 => rfl
  | k + 1 => by
    rw [keptTo]
    split
    · exact keptTo_len
    · cases keepAt keep k
      · exact keptTo_len
      · show (putP _ _).length = _
        unfold putP; rw [List.length_set]; exact keptTo_len
theorem keptTo_t {S : List Str} {ps : List GPending} {keep : List Int} {k : Nat} (hk : k < ps.length) (h : keepAt keep k = true) : keptTo S ps keep (k + 1) = (keptTo S ps keep k).set ps[k].At.toNat ps[k].Data := by
  rw [keptTo, List.getElem?_eq_getElem hk]; simp only [h, cond_true]; rfl
theorem keptTo_f {S : List Str} {ps : List GPending} {keep : List Int} {k : Nat} (hk : k < ps.length) (h : keepAt keep k = false) : keptTo S ps keep (k + 1) = keptTo S ps keep k := by
  rw [keptTo, List.getElem?_eq_getElem hk]; simp only [h, cond_false]
def syncTo (S : List Str) (ps : List GPending) (k : Nat) : List Str := (ps.take k).foldl putP S
theorem syncTo_len {S : List Str} {ps : List GPending} {k : Nat} : (syncTo S ps k).length = S.length := by
  unfold syncTo
  generalize ps.take k = l
  induction l generalizing S with
  | nil => rfl
  | cons p l ih => rw [List.foldl_cons, ih]; unfold putP; rw [List.length_set]
theorem syncTo_succ {S : List Str} {ps : List GPending} {k : Nat} (hk : k < ps.length) : syncTo S ps (k + 1) = (syncTo S ps k).set ps[k].At.toNat ps[k].Data := by
  unfold syncTo; rw [take_succ hk, List.foldl_append]; rfl
def crashD (d : GDisk) (keep : List Int) : GDisk := ⟨keptTo d.Sectors d.Cache keep d.Cache.length, [], false, []⟩
def syncD (d : GDisk) : GDisk × Bool := if d.Armed = true then (crashD d d.Keep, false) else (⟨syncTo d.Sectors d.Cache d.Cache.length, [], d.Armed, d.Keep⟩, true)
theorem syncD_1 {d : GDisk} (h : d.Armed = true) : syncD d = (crashD d d.Keep, false) := by unfold syncD; rw [if_pos h]
theorem syncD_2 {d : GDisk} (h : d.Armed = false) : syncD d = (⟨syncTo d.Sectors d.Cache d.Cache.length, [], d.Armed, d.Keep⟩, true) := by unfold syncD; rw [if_neg (by rw [h]; simp)]
def armF (d : GDisk) (keep : List Int) : GDisk × Int := if 4096 < (keep.length : Int) then (.zero, 2) else if diskOK d = false then (.zero, 1) else if 500 < (keep.length : Int) then (.zero, 6) else (⟨d.Sectors, d.Cache, true, keep⟩, 0)
theorem armF_1 {d : GDisk} {keep : List Int} (h : 4096 < (keep.length : Int)) : armF d keep = (.zero, 2) := by unfold armF; rw [if_pos h]
theorem armF_2 {d : GDisk} {keep : List Int} (h : ¬ 4096 < (keep.length : Int)) (h1 : diskOK d = false) : armF d keep = (.zero, 1) := by unfold armF; rw [if_neg h, if_pos h1]
theorem armF_3 {d : GDisk} {keep : List Int} (h : ¬ 4096 < (keep.length : Int)) (h1 : diskOK d = true) (h2 : 500 < (keep.length : Int)) : armF d keep = (.zero, 6) := by unfold armF; rw [if_neg h, if_neg (by rw [h1]; simp), if_pos h2]
theorem armF_4 {d : GDisk} {keep : List Int} (h : ¬ 4096 < (keep.length : Int)) (h1 : diskOK d = true) (h2 : ¬ 500 < (keep.length : Int)) : armF d keep = (⟨d.Sectors, d.Cache, true, keep⟩, 0) := by unfold armF; rw [if_neg h, if_neg (by rw [h1]; simp), if_neg h2]
def crashF (d : GDisk) (keep : List Int) : GDisk × Int := if 4096 < (keep.length : Int) then (.zero, 2) else if diskOK d = false then (.zero, 1) else (crashD d keep, 0)
theorem crashF_1 {d : GDisk} {keep : List Int} (h : 4096 < (keep.length : Int)) : crashF d keep = (.zero, 2) := by unfold crashF; rw [if_pos h]
theorem crashF_2 {d : GDisk} {keep : List Int} (h : ¬ 4096 < (keep.length : Int)) (h1 : diskOK d = false) : crashF d keep = (.zero, 1) := by unfold crashF; rw [if_neg h, if_pos h1]
theorem crashF_3 {d : GDisk} {keep : List Int} (h : ¬ 4096 < (keep.length : Int)) (h1 : diskOK d = true) : crashF d keep = (crashD d keep, 0) := by unfold crashF; rw [if_neg h, if_neg (by rw [h1]; simp)]
def syncF (d : GDisk) : GDisk × Bool × Int := if diskOK d = false then (.zero, false, 1) else ((syncD d).1, (syncD d).2, 0)
theorem syncF_1 {d : GDisk} (h1 : diskOK d = false) : syncF d = (.zero, false, 1) := by unfold syncF; rw [if_pos h1]
theorem syncF_2 {d : GDisk} (h1 : diskOK d = true) : syncF d = ((syncD d).1, (syncD d).2, 0) := by unfold syncF; rw [if_neg (by rw [h1]; simp)]
def wrD (d : GDisk) (a : Int) (x : Str) : GDisk := ⟨d.Sectors, d.Cache ++ [⟨a, x⟩], d.Armed, d.Keep⟩
def badW (d : GDisk) (a : Int) (x : Str) : Bool := !inR a 0 ((d.Sectors.length : Int) - 1) || decide (160 < (x.length : Int))
def writeF (d : GDisk) (a : Int) (x : Str) : GDisk × Int := if 65536 < (x.length : Int) then (.zero, 2) else if diskOK d = false then (.zero, 1) else if badW d a x = true then (.zero, 4) else if (d.Cache.length : Int) = 500 then (d, 7) else (wrD d a x, 0)
section
variable {d : GDisk} {a : Int} {x : Str}
theorem writeF_1 (h : 65536 < (x.length : Int)) : writeF d a x = (.zero, 2) := by unfold writeF; rw [if_pos h]
theorem writeF_2 (h : ¬ 65536 < (x.length : Int)) (h1 : diskOK d = false) : writeF d a x = (.zero, 1) := by unfold writeF; rw [if_neg h, if_pos h1]
theorem writeF_3 (h : ¬ 65536 < (x.length : Int)) (h1 : diskOK d = true) (h2 : badW d a x = true) : writeF d a x = (.zero, 4) := by unfold writeF; rw [if_neg h, if_neg (by rw [h1]; simp), if_pos h2]
theorem writeF_4 (h : ¬ 65536 < (x.length : Int)) (h1 : diskOK d = true) (h2 : badW d a x = false) (h3 : (d.Cache.length : Int) = 500) : writeF d a x = (d, 7) := by unfold writeF; rw [if_neg h, if_neg (by rw [h1]; simp), if_neg (by rw [h2]; simp), if_pos h3]
theorem writeF_5 (h : ¬ 65536 < (x.length : Int)) (h1 : diskOK d = true) (h2 : badW d a x = false) (h3 : ¬ (d.Cache.length : Int) = 500) : writeF d a x = (wrD d a x, 0) := by unfold writeF; rw [if_neg h, if_neg (by rw [h1]; simp), if_neg (by rw [h2]; simp), if_neg h3]
end
theorem armF_len {d : GDisk} {keep : List Int} : (armF d keep).1.Sectors.length ≤ d.Sectors.length ∧ (armF d keep).1.Cache.length ≤ d.Cache.length ∧ (armF d keep).1.Keep.length ≤ keep.length := by
  unfold armF; split
  · simp [GDisk.zero]
  · split
    · simp [GDisk.zero]
    · split
      · simp [GDisk.zero]
      · simp
theorem crashD_len {d : GDisk} {keep : List Int} : (crashD d keep).Sectors.length = d.Sectors.length := keptTo_len
theorem crashF_len {d : GDisk} {keep : List Int} : (crashF d keep).1.Sectors.length ≤ d.Sectors.length ∧ (crashF d keep).1.Cache.length = 0 ∧ (crashF d keep).1.Keep.length = 0 := by
  unfold crashF; split
  · simp [GDisk.zero]
  · split
    · simp [GDisk.zero]
    · exact ⟨by show (crashD d keep).Sectors.length ≤ _; rw [crashD_len]; exact Nat.le_refl _, rfl, rfl⟩
theorem syncF_len {d : GDisk} : (syncF d).1.Sectors.length ≤ d.Sectors.length ∧ (syncF d).1.Cache.length = 0 ∧ (syncF d).1.Keep.length ≤ d.Keep.length := by
  unfold syncF; split
  · simp [GDisk.zero]
  · show (syncD d).1.Sectors.length ≤ _ ∧ (syncD d).1.Cache.length = 0 ∧ (syncD d).1.Keep.length ≤ _
    unfold syncD; split
    · exact ⟨by show (crashD d _).Sectors.length ≤ _; rw [crashD_len]; exact Nat.le_refl _, rfl, Nat.zero_le _⟩
    · exact ⟨by show (syncTo _ _ _).length ≤ _; rw [syncTo_len]; exact Nat.le_refl _, rfl, Nat.le_refl _⟩
theorem writeF_len {d : GDisk} {a : Int} {x : Str} : (writeF d a x).1.Sectors.length ≤ d.Sectors.length ∧ (writeF d a x).1.Cache.length ≤ d.Cache.length + 1 ∧ (writeF d a x).1.Keep.length ≤ d.Keep.length := by
  unfold writeF; split
  · simp [GDisk.zero]
  · split
    · simp [GDisk.zero]
    · split
      · simp [GDisk.zero]
      · split
        · simp
        · simp [wrD]
abbrev GDisk.pO (e e0 e1 e2 : Nat) (x : GDisk) : List (Nat × OB) := (e, .box [.osl e0 1 0 x.Sectors.length, .osl e1 2 0 x.Cache.length, .d (.bool x.Armed), .osl e2 1 0 x.Keep.length]) :: x.hO e0 e1 e2
end Go.AM

/- Plain laws: disks that are right, what is read of them, drawn ones. -/
namespace Go.AM
structure DOK (d : GDisk) : Prop where
  s0 : 1 ≤ d.Sectors.length
  s1 : d.Sectors.length ≤ 100
  c1 : d.Cache.length ≤ 500
  k1 : d.Keep.length ≤ 500
  ka : d.Armed = false → d.Keep = []
  st : ∀ t ∈ d.Sectors, t.length ≤ 160
  ct : ∀ p ∈ d.Cache, 0 ≤ p.At ∧ p.At < (d.Sectors.length : Int) ∧ p.Data.length ≤ 160
theorem DOK.ok {d : GDisk} (h : DOK d) : diskOK d = true := by
  have h0 := h.s0; have h1 := h.s1; have h2 := h.c1; have h3 := h.k1
  unfold diskOK
  have e1 : badHead d = false := by
    unfold badHead inR
    cases ha : d.Armed with
    | false => rw [h.ka ha]; simp; omega
    | true => simp; omega
  have e2 : d.Sectors.any long160 = false := by
    rw [List.any_eq_false]; intro t ht; have := h.st t ht; unfold long160; simp; omega
  have e3 : d.Cache.any (badAt d.Sectors.length) = false := by
    rw [List.any_eq_false]; intro p hp; have := h.ct p hp; unfold badAt inR; simp; omega
  rw [e1, e2, e3]; rfl
theorem newD_ok {n : Nat} (h : 1 ≤ n ∧ n ≤ 100) : DOK ⟨List.replicate n [], [], false, []⟩ :=
  ⟨by simp; omega, by simp; omega, Nat.zero_le _, Nat.zero_le _, fun _ => rfl, fun t ht => by rw [(List.mem_replicate.1 ht).2]; exact Nat.zero_le _, fun p hp => by cases hp⟩
theorem armD_ok {d : GDisk} {keep : List Int} (h : DOK d) (hk : keep.length ≤ 500) : DOK ⟨d.Sectors, d.Cache, true, keep⟩ :=
  ⟨h.s0, h.s1, h.c1, hk, fun h => (by cases h), h.st, h.ct⟩
theorem wrD_ok {d : GDisk} {a : Int} {x : Str} (h : DOK d) (ha : 0 ≤ a ∧ a < (d.Sectors.length : Int)) (hx : x.length ≤ 160) (hc : d.Cache.length < 500) : DOK (wrD d a x) :=
  ⟨h.s0, h.s1, by show (d.Cache ++ _).length ≤ _; simp; omega, h.k1, h.ka, h.st, fun p hp => by
    rcases List.mem_append.1 hp with q | q
    · exact h.ct p q
    · rw [List.mem_singleton] at q; subst q; exact ⟨ha.1, ha.2, hx⟩⟩
theorem putP_st {S : List Str} {p : GPending} (hs : ∀ t ∈ S, t.length ≤ 160) (hp : p.Data.length ≤ 160) : ∀ t ∈ putP S p, t.length ≤ 160 := fun t ht => by
  unfold putP at ht
  rcases List.mem_or_eq_of_mem_set ht with q | q
  · exact hs t q
  · rw [q]; exact hp
theorem keptTo_st {S : List Str} {C : List GPending} {keep : List Int} (hs : ∀ t ∈ S, t.length ≤ 160) (hc : ∀ p ∈ C, p.Data.length ≤ 160) : ∀ k, ∀ t ∈ keptTo S C keep k, t.length ≤ 160
  | 0 => hs
  | k + 1 => by
    rw [keptTo]
    split
    · exact keptTo_st hs hc k
    · rename_i p hp
      cases keepAt keep k with
      | false => exact keptTo_st hs hc k
      | true => exact putP_st (keptTo_st hs hc k) (hc p (List.mem_of_getElem? hp))
theorem syncTo_st {S : List Str} {C : List GPending} (hs : ∀ t ∈ S, t.length ≤ 160) (hc : ∀ p ∈ C, p.Data.length ≤ 160) (k : Nat) : ∀ t ∈ syncTo S C k, t.length ≤ 160 := by
  unfold syncTo
  have hc2 : ∀ p ∈ C.take k, p.Data.length ≤ 160 := fun p hp => hc p (List.mem_of_mem_take hp)
  generalize C.take k = l at hc2
  induction l generalizing S with
  | nil => exact hs
  | cons p l ih => rw [List.foldl_cons]; exact ih (putP_st hs (hc2 p (List.mem_cons_self ..))) (fun q hq => hc2 q (List.mem_cons_of_mem _ hq))
theorem crashD_ok {d : GDisk} {keep : List Int} (h : DOK d) : DOK (crashD d keep) :=
  ⟨by rw [crashD_len]; exact h.s0, by rw [crashD_len]; exact h.s1, Nat.zero_le _, Nat.zero_le _, fun _ => rfl, keptTo_st h.st (fun p hp => (h.ct p hp).2.2) _, fun p hp => by cases hp⟩
theorem syncD_ok {d : GDisk} (h : DOK d) : DOK (syncD d).1 := by
  unfold syncD; split
  · exact crashD_ok h
  · exact ⟨by show 1 ≤ (syncTo _ _ _).length; rw [syncTo_len]; exact h.s0, by show (syncTo _ _ _).length ≤ _; rw [syncTo_len]; exact h.s1, Nat.zero_le _, h.k1, h.ka, syncTo_st h.st (fun p hp => (h.ct p hp).2.2) _, fun p hp => by cases hp⟩
/-- A drawn disk, of at most 'm' writes. -/
structure DD (d : GDisk) (m : Nat) : Prop where
  ok : DOK d
  s9 : d.Sectors.length ≤ 9
  cm : d.Cache.length ≤ m
  km : d.Keep.length ≤ 11
theorem DD.w0 {d : GDisk} {m : Nat} (h : DD d m) : d.Sectors.length ≤ 1048576 := by have := h.s9; omega
theorem DD.w1 {d : GDisk} {m : Nat} (h : DD d m) (hm : m ≤ 100) : d.Cache.length ≤ 1048576 := by have := h.cm; omega
theorem DD.w2 {d : GDisk} {m : Nat} (h : DD d m) : d.Keep.length ≤ 1048576 := by have := h.km; omega
theorem DD.mono {d : GDisk} {m n : Nat} (h : DD d m) (hm : m ≤ n) : DD d n := ⟨h.ok, h.s9, Nat.le_trans h.cm hm, h.km⟩
theorem newD_dd {n : Nat} (h : 1 ≤ n ∧ n ≤ 9) : DD ⟨List.replicate n [], [], false, []⟩ 0 := ⟨newD_ok (by omega), by simp; omega, Nat.le_refl _, Nat.zero_le _⟩
theorem syncD_len {d : GDisk} : (syncD d).1.Sectors.length = d.Sectors.length ∧ (syncD d).1.Cache.length = 0 ∧ (syncD d).1.Keep.length ≤ d.Keep.length := by
  unfold syncD; split
  · exact ⟨crashD_len, rfl, Nat.zero_le _⟩
  · exact ⟨syncTo_len, rfl, Nat.le_refl _⟩
theorem syncD_dd {d : GDisk} {m : Nat} (h : DD d m) : DD (syncD d).1 m := by
  obtain ⟨h1, h2, h3⟩ := @syncD_len d
  exact ⟨syncD_ok h.ok, by rw [h1]; exact h.s9, by omega, by have := h.km; omega⟩
theorem armD_dd {d : GDisk} {m : Nat} {keep : List Int} (h : DD d m) (hk : keep.length ≤ 11) : DD ⟨d.Sectors, d.Cache, true, keep⟩ m := ⟨armD_ok h.ok (by omega), h.s9, h.cm, hk⟩
theorem wrD_dd {d : GDisk} {m : Nat} {a : Int} {x : Str} (h : DD d m) (ha : 0 ≤ a ∧ a < (d.Sectors.length : Int)) (hx : x.length ≤ 160) (hm : m < 100) : DD (wrD d a x) (m + 1) :=
  ⟨wrD_ok h.ok ha hx (by have := h.cm; omega), h.s9, by show (d.Cache ++ _).length ≤ _; have := h.cm; simp; omega, h.km⟩
theorem armF_ok {d : GDisk} {keep : List Int} (h : DOK d) (hk : keep.length ≤ 500) : armF d keep = (⟨d.Sectors, d.Cache, true, keep⟩, 0) := armF_4 (by omega) h.ok (by omega)
theorem crashF_ok {d : GDisk} {keep : List Int} (h : DOK d) (hk : keep.length ≤ 500) : crashF d keep = (crashD d keep, 0) := crashF_3 (by omega) h.ok
theorem syncF_ok {d : GDisk} (h : DOK d) : syncF d = ((syncD d).1, (syncD d).2, 0) := syncF_2 h.ok
def newF (n : Int) : List Str × Int := if inR n 1 100 = false then ([], 4) else (List.replicate n.toNat [], 0)
/-- What a sector tells: what was written last. -/
def lastW (C : List GPending) (i : Int) (t : Str) : Str := C.foldl (fun t p => if p.At = i then p.Data else t) t
theorem lastW_app {C : List GPending} {p : GPending} {i : Int} {t : Str} : lastW (C ++ [p]) i t = if p.At = i then p.Data else lastW C i t := by
  unfold lastW; rw [List.foldl_append]; rfl
theorem lastW_no {C : List GPending} {i : Int} {t : Str} {k : Nat} (hk : k < C.length) (h : C[k].At ≠ i) : lastW (C.take (k + 1)) i t = lastW (C.take k) i t := by
  rw [take_succ hk, lastW_app, if_neg h]
theorem lastW_yes {C : List GPending} {i : Int} {t : Str} {k : Nat} (hk : k < C.length) (h : C[k].At = i) : lastW (C.take (k + 1)) i t = C[k].Data := by
  rw [take_succ hk, lastW_app, if_pos h]
theorem putP_get {S : List Str} {p : GPending} {i : Nat} (hi : i < S.length) (hp : 0 ≤ p.At) : (putP S p).getD i [] = if p.At = (i : Int) then p.Data else S.getD i [] := by
  unfold putP
  split
  · rename_i h
    rw [show p.At.toNat = i from by omega]
    simp [List.getD, hi]
  · rename_i h
    rw [List.getD_eq_getElem?_getD, List.getElem?_set_ne (by omega), List.getD_eq_getElem?_getD]
theorem syncTo_get {S : List Str} {C : List GPending} {i : Nat} (hi : i < S.length) (hC : ∀ p ∈ C, 0 ≤ p.At) : ∀ k, k ≤ C.length → (syncTo S C k).getD i [] = lastW (C.take k) i (S.getD i [])
  | 0, _ => rfl
  | k + 1, hk => by
    have e : syncTo S C (k + 1) = putP (syncTo S C k) C[k] := syncTo_succ (by omega)
    rw [e, putP_get (by rw [syncTo_len]; exact hi) (hC _ (List.getElem_mem (by omega))), syncTo_get hi hC k (by omega), take_succ (by omega), lastW_app]
theorem keptTo_get {S : List Str} {C : List GPending} {keep : List Int} {i : Nat} (hi : i < S.length) (hC : ∀ p ∈ C, 0 ≤ p.At) : ∀ k, k ≤ C.length → (keptTo S C keep k).getD i [] = S.getD i [] ∨ ∃ p ∈ C, p.At = (i : Int) ∧ (keptTo S C keep k).getD i [] = p.Data
  | 0, _ => .inl rfl
  | k + 1, hk => by
    cases hh : keepAt keep k with
    | false => rw [keptTo_f (by omega) hh]; exact keptTo_get hi hC k (by omega)
    | true =>
      have e : keptTo S C keep (k + 1) = putP (keptTo S C keep k) C[k] := keptTo_t (by omega) hh
      rw [e, putP_get (by rw [keptTo_len]; exact hi) (hC _ (List.getElem_mem (by omega)))]
      split
      · rename_i h
        exact .inr ⟨_, List.getElem_mem (by omega), h, rfl⟩
      · exact keptTo_get hi hC k (by omega)
/-- What is kept, drawn. -/
def keepsL : Nat → Src → List Int → List Int × Src
  | 0, s, l => (l, s)
  | n + 1, s, l => keepsL n (nextF s 2).2 (l ++ [(nextF s 2).1])
def keepsF (s : Src) : List Int × Src := keepsL (nextF s 12).1.toNat (nextF s 12).2 []
theorem keepsL_ok : ∀ {m : Nat} {s : Src} {l : List Int} {k : Nat}, s.ok (k + 3 * m) → (keepsL m s l).2.ok k ∧ (keepsL m s l).1.length = l.length + m
  | 0, _, _, _, h => ⟨h, rfl⟩
  | m + 1, s, l, k, h => by
    obtain ⟨h1, h2⟩ := keepsL_ok (m := m) (l := l ++ [(nextF s 2).1]) (k := k) (nextF_ok (s := s) (n := 2) (k := k + 3 * m) (h.mono (by omega))).1
    exact ⟨h1, by rw [keepsL, h2]; simp; omega⟩
theorem keepsF_ok {s : Src} {k : Nat} (h : s.ok (k + 36)) : (keepsF s).2.ok k ∧ (keepsF s).1.length ≤ 11 := by
  obtain ⟨h1, h2, h3⟩ := nextF_ok (s := s) (n := 12) (k := k + 33) h
  have h3 := h3 (by omega)
  obtain ⟨h4, h5⟩ := keepsL_ok (m := (nextF s 12).1.toNat) (l := []) (k := k) (h1.mono (by omega))
  exact ⟨h4, by unfold keepsF; rw [h5, List.length_nil]; omega⟩
def newDk (n : Int) : GDisk := ⟨List.replicate n.toNat [], [], false, []⟩
theorem newDk_len {n : Int} : (newDk n).Sectors.length = n.toNat := by simp [newDk]
theorem newDk_rows {n : Int} : (newDk n).Sectors.map strRow = List.replicate n.toNat [D.str []] := by simp [newDk]; exact .inr rfl
theorem newDk_dd {n : Int} (h : 1 ≤ n ∧ n ≤ 9) : DD (newDk n) 0 := newD_dd (by omega)
noncomputable def difD (x y : GDisk) : Bool := ((!eqb x.Sectors y.Sectors || !decide ((x.Cache.length : Int) = y.Cache.length)) || !(x.Armed == y.Armed)) || !eqb x.Keep y.Keep
theorem difD_no {x y : GDisk} (h : difD x y = false) : x.Sectors = y.Sectors ∧ x.Cache.length = y.Cache.length ∧ x.Armed = y.Armed ∧ x.Keep = y.Keep := by
  unfold difD at h
  simp only [Bool.or_eq_false_iff, Bool.not_eq_false', beq_iff_eq, decide_eq_true_eq] at h
  obtain ⟨⟨⟨h1, h2⟩, h3⟩, h4⟩ := h
  exact ⟨eqb_iff.1 h1, by omega, h3, eqb_iff.1 h4⟩
theorem difD_ne {x y : GDisk} (h : difD x y = true) : x ≠ y := fun e => by
  subst e; unfold difD at h; rw [eqb_rfl, eqb_rfl] at h; simp at h
theorem syncF_arm {d : GDisk} {keep : List Int} (h : DOK d) (hk : keep.length ≤ 500) : syncF ⟨d.Sectors, d.Cache, true, keep⟩ = (crashD d keep, false, 0) := by
  rw [syncF_ok (armD_ok h hk), syncD_1 rfl]; rfl
theorem dTexts_len : ∀ {t : Str}, t ∈ [[], [111, 110, 101], [116, 119, 111]] → t.length ≤ 160 := fun {t} h => by
  simp at h; rcases h with rfl | rfl | rfl <;> simp
def dTexts : List Str := [[], [111, 110, 101], [116, 119, 111]]
end Go.AM

/- Plain laws: the sum of bytes, numbers in bytes. -/
namespace Go.AM
theorem wr_u32 {n : Int} (h : 0 ≤ n) (h2 : n < 4294967296) : wr .u32 n = n := by
  unfold wr; simp [IntKind.wrap, IntKind.bits, IntKind.signed]; omega
theorem wr_u64 {n : Int} (h : 0 ≤ n) (h2 : n < 18446744073709551616) : wr .u64 n = n := by
  unfold wr; simp [IntKind.wrap, IntKind.bits, IntKind.signed]; omega
theorem bvI {w a : Nat} (h : a < 2 ^ w) : (BitVec.ofInt w (a : Int)).toNat = a := by
  rw [BitVec.toNat_ofInt]
  have : ((a : Int) % ((2 ^ w : Nat) : Int)) = a := Int.emod_eq_of_lt (by omega) (by omega)
  rw [this]; rfl
theorem x32 {a b : Nat} (ha : a < 4294967296) (hb : b < 4294967296) : wr .u32 ((BitVec.ofInt IntKind.u32.bits (a : Int) ^^^ BitVec.ofInt IntKind.u32.bits (b : Int)).toNat) = ((a ^^^ b : Nat) : Int) := by
  have h : a ^^^ b < 2 ^ 32 := Nat.xor_lt_two_pow ha hb
  rw [BitVec.toNat_xor, bvI (w := IntKind.u32.bits) (show a < 2 ^ 32 from ha), bvI (w := IntKind.u32.bits) (show b < 2 ^ 32 from hb)]
  exact wr_u32 (by omega) (by omega)
theorem x64 {a b : Nat} (ha : a < 4294967296) (hb : b < 4294967296) : wr .i64 ((BitVec.ofInt IntKind.i64.bits (a : Int) ^^^ BitVec.ofInt IntKind.i64.bits (b : Int)).toNat) = ((a ^^^ b : Nat) : Int) := by
  have h : a ^^^ b < 2 ^ 32 := Nat.xor_lt_two_pow ha hb
  rw [BitVec.toNat_xor, bvI (w := IntKind.i64.bits) (show a < 2 ^ 64 by omega), bvI (w := IntKind.i64.bits) (show b < 2 ^ 64 by omega)]
  exact wr_ok (by omega) (by omega)
theorem a32 {a : Nat} (ha : a < 4294967296) : wr .u32 ((BitVec.ofInt IntKind.u32.bits (a : Int) &&& BitVec.ofInt IntKind.u32.bits 1).toNat) = ((a % 2 : Nat) : Int) := by
  rw [BitVec.toNat_and, bvI (w := IntKind.u32.bits) (show a < 2 ^ 32 from ha), show (1 : Int) = ((1 : Nat) : Int) from rfl, bvI (show 1 < 2 ^ IntKind.u32.bits by decide), Nat.and_one_is_mod]
  exact wr_u32 (by omega) (by omega)
theorem a64 {a : Nat} (ha : a < 4294967296) : wr .i64 ((BitVec.ofInt IntKind.i64.bits (a : Int) &&& BitVec.ofInt IntKind.i64.bits 1).toNat) = ((a % 2 : Nat) : Int) := by
  rw [BitVec.toNat_and, bvI (w := IntKind.i64.bits) (show a < 2 ^ 64 by omega), show (1 : Int) = ((1 : Nat) : Int) from rfl, bvI (show 1 < 2 ^ IntKind.i64.bits by decide), Nat.and_one_is_mod]
  exact wr_ok (by omega) (by omega)
theorem sh1 {a : Nat} : (a : Int).fdiv 2 = ((a / 2 : Nat) : Int) := by
  rw [Int.fdiv_eq_ediv_of_nonneg _ (by omega)]; omega
/-- One bit, so many bits, bytes. -/
def bit1 (s : Nat) : Nat := if s % 2 = 1 then (s / 2) ^^^ 3988292384 else s / 2
def bitsN : Nat → Nat → Nat
  | 0, s => s
  | k + 1, s => bit1 (bitsN k s)
def crcS (l : Str) : Nat := l.foldl (fun s c => bitsN 8 (s ^^^ c.toNat)) 4294967295
def crcN (l : Str) : Nat := crcS l ^^^ 4294967295
theorem bit1_lt {s : Nat} (h : s < 4294967296) : bit1 s < 4294967296 := by
  unfold bit1; split
  · exact Nat.xor_lt_two_pow (n := 32) (by omega) (by omega)
  · omega
theorem bit1_t {s : Nat} (h : s % 2 = 1) : bit1 s = (s / 2) ^^^ 3988292384 := by unfold bit1; rw [if_pos h]
theorem bit1_f {s : Nat} (h : ¬ s % 2 = 1) : bit1 s = s / 2 := by unfold bit1; rw [if_neg h]
theorem slc_drop {l : Str} {n : Nat} : AV.d (.sl 1 (((l.map byteRow).drop (n : Int).toNat).take (((l.map byteRow).length : Int).toNat - (n : Int).toNat))) = .d (.sl 1 ((l.drop n).map byteRow)) := by
  rw [Int.toNat_natCast, Int.toNat_natCast, List.take_of_length_le (by simp), List.map_drop]
theorem slc_take {l : Str} {a : Int} {n : Nat} (h : a.toNat = n) : AV.d (.sl 1 (((l.map byteRow).drop (0 : Int).toNat).take (a.toNat - (0 : Int).toNat))) = .d (.sl 1 ((l.take n).map byteRow)) := by
  rw [h]; simp [List.map_take]
theorem slc_drop2 {l : Str} {a : Int} {n : Nat} (h : a.toNat = n) : AV.d (.sl 1 (((l.map byteRow).drop a.toNat).take (((l.map byteRow).length : Int).toNat - a.toNat))) = .d (.sl 1 ((l.drop n).map byteRow)) := by
  rw [h, Int.toNat_natCast, List.take_of_length_le (by simp), List.map_drop]
theorem app_rows {x y : Str} : (x.map byteRow).take x.length ++ (((y.map byteRow).drop 0).take y.length) = (x ++ y).map byteRow := by
  rw [List.take_of_length_le (by simp), List.drop_zero, List.take_of_length_le (by simp), List.map_append]
theorem app_str {x y : Str} : (x.map byteRow).take x.length ++ y.map byteRow = (x ++ y).map byteRow := by
  rw [List.take_of_length_le (by simp), List.map_append]
theorem len_rows {y : Str} : (((y.map byteRow).drop 0).take y.length).length = y.length := by simp
theorem bitsN_lt {s : Nat} (h : s < 4294967296) : ∀ k, bitsN k s < 4294967296
  | 0 => h
  | k + 1 => bit1_lt (bitsN_lt h k)
theorem bit1_mul {s : Nat} : (s / 2) ^^^ (s % 2 * 3988292384) = bit1 s := by
  unfold bit1
  rcases Nat.mod_two_eq_zero_or_one s with h | h
  · rw [h, if_neg (by omega)]; simp
  · rw [h, if_pos rfl]
theorem bit1_x64 {s : Nat} (h : s < 4294967296) : wr .i64 ((BitVec.ofInt IntKind.i64.bits ((s / 2 : Nat) : Int) ^^^ BitVec.ofInt IntKind.i64.bits ((s % 2 * 3988292384 : Nat) : Int)).toNat) = ((bit1 s : Nat) : Int) := by
  rw [x64 (by omega) (Nat.lt_of_le_of_lt (Nat.mul_le_mul_right 3988292384 (show s % 2 ≤ 1 by omega)) (by decide)), bit1_mul]
theorem xb_lt {s : Nat} {c : UInt8} (h : s < 4294967296) : s ^^^ c.toNat < 4294967296 := Nat.xor_lt_two_pow (n := 32) h (by have := c.toNat_lt; omega)
theorem crcS_lt {l : Str} : crcS l < 4294967296 := by
  unfold crcS
  suffices h : ∀ (l : Str) (s : Nat), s < 4294967296 → l.foldl (fun s c => bitsN 8 (s ^^^ c.toNat)) s < 4294967296 from h l _ (by omega)
  intro l
  induction l with
  | nil => exact fun s h => h
  | cons c l ih => exact fun s h => ih _ (bitsN_lt (xb_lt h) 8)
theorem crcN_lt {l : Str} : crcN l < 4294967296 := Nat.xor_lt_two_pow (n := 32) crcS_lt (by omega)
theorem crcS_succ {l : Str} {k : Nat} (hk : k < l.length) : crcS (l.take (k + 1)) = bitsN 8 (crcS (l.take k) ^^^ l[k].toNat) := by
  rw [take_succ hk]; unfold crcS; rw [List.foldl_append]; rfl
def shB (n : Int) (s : Int) : UInt8 := byteOf (n.fdiv (2 ^ (min s.toNat 64)))
theorem shB_0 {n : Int} : shB n 0 = byteOf n := by
  show byteOf (n.fdiv 1) = _
  rw [Int.fdiv_one]
theorem shB_8 {n : Int} : shB n 8 = byteOf (n / 256) := by
  show byteOf (n.fdiv 256) = _
  rw [Int.fdiv_eq_ediv_of_nonneg _ (by omega)]
theorem shB_16 {n : Int} : shB n 16 = byteOf (n / 65536) := by
  show byteOf (n.fdiv 65536) = _
  rw [Int.fdiv_eq_ediv_of_nonneg _ (by omega)]
theorem shB_24 {n : Int} : shB n 24 = byteOf (n / 16777216) := by
  show byteOf (n.fdiv 16777216) = _
  rw [Int.fdiv_eq_ediv_of_nonneg _ (by omega)]
def fourB (n : Int) : Str := [shB n 24, shB n 16, shB n 8, byteOf n]
def twoB (n : Int) : Str := [shB n 8, byteOf n]
def numT (n : Int) (size : Nat) (k : Nat) : Str := (List.range k).map (fun j => shB n (8 * (((size - 1 - j : Nat)) : Int)))
theorem numT_len {n : Int} {size k : Nat} : (numT n size k).length = k := by simp [numT]
theorem numT_succ {n : Int} {size k : Nat} : numT n size (k + 1) = numT n size k ++ [shB n (8 * (((size - 1 - k : Nat)) : Int))] := by
  unfold numT; rw [List.range_succ, List.map_append]; rfl
theorem numT_4 {n : Int} : numT n 4 4 = fourB n := by
  unfold fourB; rw [← shB_0]; rfl
theorem numT_2 {n : Int} : numT n 2 2 = twoB n := by
  unfold twoB; rw [← shB_0]; rfl
def bigN (l : Str) : Nat := l.foldl (fun n c => n * 256 + c.toNat) 0
theorem bigN_lt : ∀ {l : Str}, bigN l < 256 ^ l.length := by
  suffices h : ∀ (l : Str) (n : Nat), l.foldl (fun n c => n * 256 + c.toNat) n + 1 ≤ (n + 1) * 256 ^ l.length from fun {l} => by have := h l 0; unfold bigN; omega
  intro l
  induction l with
  | nil => intro n; simp
  | cons c l ih =>
    intro n
    have := ih (n * 256 + c.toNat)
    have hc := c.toNat_lt
    rw [List.foldl_cons, List.length_cons, Nat.pow_succ]
    refine Nat.le_trans this ?_
    rw [Nat.mul_comm (256 ^ l.length) 256, ← Nat.mul_assoc]
    exact Nat.mul_le_mul_right _ (by omega)
theorem bigN_four {n : Nat} (h : n < 4294967296) : bigN (fourB n) = n := by
  unfold bigN fourB; rw [shB_24, shB_16, shB_8]; simp only [List.foldl_cons, List.foldl_nil]
  have h1 := byteOf_nat ((n : Int) / 16777216); have h2 := byteOf_nat ((n : Int) / 65536); have h3 := byteOf_nat ((n : Int) / 256); have h4 := byteOf_nat n
  omega
theorem bigN_two {n : Nat} (h : n < 65536) : bigN (twoB n) = n := by
  unfold bigN twoB; rw [shB_8]; simp only [List.foldl_cons, List.foldl_nil]
  have h3 := byteOf_nat ((n : Int) / 256); have h4 := byteOf_nat n
  omega
theorem bigN_succ {l : Str} {k : Nat} (hk : k < l.length) : bigN (l.take (k + 1)) = bigN (l.take k) * 256 + l[k].toNat := by
  rw [take_succ hk]; unfold bigN; rw [List.foldl_append]; rfl
theorem bigN_lt3 {l : Str} (h : l.length ≤ 4) {k : Nat} (hk : k < l.length) : bigN (l.take k) < 16777216 := by
  have h1 := @bigN_lt (l.take k)
  have h2 : (l.take k).length ≤ 3 := by rw [List.length_take]; omega
  exact Nat.lt_of_lt_of_le h1 (Nat.pow_le_pow_right (n := 256) (by omega) h2)
theorem orW {a : Nat} {c : UInt8} (h : a < 16777216) : wr .i64 ((BitVec.ofInt IntKind.i64.bits ((a * 256 : Nat) : Int) ||| BitVec.ofInt IntKind.i64.bits (c.toNat : Int)).toNat) = ((a * 256 + c.toNat : Nat) : Int) := by
  have hc := c.toNat_lt
  rw [BitVec.toNat_or, bvI (w := IntKind.i64.bits) (show a * 256 < 2 ^ 64 by omega), bvI (w := IntKind.i64.bits) (show c.toNat < 2 ^ 64 by omega), Nat.mul_comm a 256, show (256 : Nat) = 2 ^ 8 from rfl, ← Nat.two_pow_add_eq_or_of_lt (show c.toNat < 2 ^ 8 by omega) a]
  exact wr_ok (by omega) (by omega)
theorem shlW {a : Nat} (h : a < 16777216) : wr .i64 ((a : Int) * 2 ^ (min (8 : Int).toNat IntKind.i64.bits)) = ((a * 256 : Nat) : Int) := by
  rw [wr_ok (by show _ ≤ (a : Int) * 256; omega) (by show (a : Int) * 256 ≤ _; omega)]
  show (a : Int) * 256 = _
  omega
def sealB (l : Str) : Str := l ++ fourB (crcN l)
/-- The bytes that are sealed, if they are. -/
def unsealF (l : Str) : Str × Bool := if (l.length : Int) - 4 < 0 ∨ ¬ (crcN (l.take (l.length - 4)) : Int) = bigN (l.drop (l.length - 4)) then ([], false) else (l.take (l.length - 4), true)
theorem unseal_1 {l : Str} (h : (l.length : Int) - 4 < 0 ∨ ¬ (crcN (l.take (l.length - 4)) : Int) = bigN (l.drop (l.length - 4))) : unsealF l = ([], false) := by unfold unsealF; rw [if_pos h]
theorem unseal_2 {l : Str} (h : ¬ ((l.length : Int) - 4 < 0 ∨ ¬ (crcN (l.take (l.length - 4)) : Int) = bigN (l.drop (l.length - 4)))) : unsealF l = (l.take (l.length - 4), true) := by unfold unsealF; rw [if_neg h]
theorem seal_len {l : Str} : (sealB l).length = l.length + 4 := by unfold sealB fourB; simp
theorem unseal_seal {l : Str} : unsealF (sealB l) = (l, true) := by
  have e : (sealB l).length - 4 = l.length := by rw [seal_len]; omega
  have e1 : (sealB l).take l.length = l := by unfold sealB; simp
  have e2 : (sealB l).drop l.length = fourB (crcN l) := by unfold sealB; simp
  have := @unseal_2 (sealB l) (by rw [e, e1, e2, bigN_four crcN_lt, seal_len]; omega)
  rw [this, e, e1]
theorem unseal_len {l : Str} : (unsealF l).1.length ≤ l.length := by
  unfold unsealF; split
  · exact Nat.zero_le _
  · simp
/-- Fields, put behind bytes. -/
def fieldB (t : Str) : Str := byteOf t.length :: t
def putK (b : Str) (ts : List Str) (k : Nat) : Str := (b ++ [byteOf ts.length]) ++ (ts.take k).flatMap fieldB
def putFs (b : Str) (ts : List Str) : Str := putK b ts ts.length
theorem putK_0 {b : Str} {ts : List Str} : putK b ts 0 = b ++ [byteOf ts.length] := by unfold putK; simp
theorem fm_succ {ts : List Str} {k : Nat} (hk : k < ts.length) : (ts.take (k + 1)).flatMap fieldB = (ts.take k).flatMap fieldB ++ (byteOf ts[k].length :: ts[k]) := by
  rw [take_succ hk, List.flatMap_append]; simp only [List.flatMap_cons, List.flatMap_nil, List.append_nil]; rfl
theorem putK_succ {b : Str} {ts : List Str} {k : Nat} (hk : k < ts.length) : putK b ts (k + 1) = (putK b ts k ++ [byteOf ts[k].length]) ++ ts[k] := by
  unfold putK; rw [fm_succ hk]; simp only [List.append_assoc, List.cons_append, List.nil_append]
def lenK (ts : List Str) (k : Nat) : Nat := ((ts.take k).flatMap fieldB).length
theorem putK_len {b : Str} {ts : List Str} {k : Nat} : (putK b ts k).length = b.length + 1 + lenK ts k := by unfold putK lenK; simp only [List.length_append, List.length_cons, List.length_nil]
theorem lenK_le {ts : List Str} {m : Nat} (h : ∀ t ∈ ts, t.length ≤ m) : ∀ k, lenK ts k ≤ (m + 1) * k
  | 0 => by simp [lenK]
  | k + 1 => by
    have ih := lenK_le h k
    rw [Nat.mul_succ]
    rcases Nat.lt_or_ge k ts.length with hk | hk
    · have := h _ (List.getElem_mem hk)
      unfold lenK at ih ⊢
      rw [fm_succ hk, List.length_append, List.length_cons]; omega
    · unfold lenK at ih ⊢
      rw [List.take_of_length_le (by omega)] at ih ⊢; omega
/-- Who takes bytes. -/
structure Rd where
  rest : Str
  fail : Bool
abbrev Rd.box (r : Rd) : OB := .box [.d (.sl 1 (r.rest.map byteRow)), .d (.bool r.fail)]
def takeF (r : Rd) (n : Nat) : Str × Rd := if (r.rest.length : Int) < (n : Int) then (List.replicate n 0, ⟨r.rest, true⟩) else (r.rest.take n, ⟨r.rest.drop n, r.fail⟩)
theorem takeF_1 {r : Rd} {n : Nat} (h : (r.rest.length : Int) < (n : Int)) : takeF r n = (List.replicate n 0, ⟨r.rest, true⟩) := by unfold takeF; rw [if_pos h]
theorem takeF_2 {r : Rd} {n : Nat} (h : ¬ (r.rest.length : Int) < (n : Int)) : takeF r n = (r.rest.take n, ⟨r.rest.drop n, r.fail⟩) := by unfold takeF; rw [if_neg h]
theorem takeF_len {r : Rd} {n : Nat} : (takeF r n).1.length = n ∧ (takeF r n).2.rest.length ≤ r.rest.length := by
  unfold takeF; split
  · exact ⟨by simp, Nat.le_refl _⟩
  · exact ⟨by simp; omega, by simp⟩
def numF (r : Rd) : Nat × Rd := (((takeF r 1).1.getD 0 0).toNat, (takeF r 1).2)
theorem numF_lt {r : Rd} : (numF r).1 < 256 ∧ (numF r).2.rest.length ≤ r.rest.length := ⟨(((takeF r 1).1.getD 0 0)).toNat_lt, takeF_len.2⟩
def fldL : Nat → Rd → List Str → List Str × Rd
  | 0, r, l => (l, r)
  | n + 1, r, l => fldL n (takeF (numF r).2 (numF r).1).2 (l ++ [(takeF (numF r).2 (numF r).1).1])
def fieldsF (r : Rd) : List Str × Rd := fldL (numF r).1 (numF r).2 []
theorem fldL_len : ∀ {n : Nat} {r : Rd} {l : List Str}, (fldL n r l).1.length = l.length + n ∧ (fldL n r l).2.rest.length ≤ r.rest.length
  | 0, r, l => ⟨rfl, Nat.le_refl _⟩
  | n + 1, r, l => by
    obtain ⟨h1, h2⟩ := @fldL_len n (takeF (numF r).2 (numF r).1).2 (l ++ [(takeF (numF r).2 (numF r).1).1])
    have h3 := @takeF_len (numF r).2 (numF r).1
    have h4 := @numF_lt r
    exact ⟨by rw [fldL, h1]; simp; omega, by rw [fldL]; omega⟩
theorem fields_len {r : Rd} : (fieldsF r).1.length ≤ 255 ∧ (fieldsF r).2.rest.length ≤ r.rest.length := by
  obtain ⟨h1, h2⟩ := @fldL_len (numF r).1 (numF r).2 []
  have := @numF_lt r
  unfold fieldsF
  exact ⟨by rw [h1, List.length_nil]; omega, by omega⟩
def doneF (r : Rd) : Bool := !r.fail && decide ((r.rest.length : Int) = 0)
theorem byteOf_len {t : Str} (h : t.length ≤ 255) : (byteOf t.length).toNat = t.length := by have := byteOf_nat t.length; omega
theorem numF_cons {c : UInt8} {b : Str} : numF ⟨c :: b, false⟩ = (c.toNat, ⟨b, false⟩) := by
  unfold numF; rw [takeF_2 (by simp; omega)]; simp
theorem fldL_put : ∀ {ts : List Str} {l : List Str} {b : Str}, (∀ t ∈ ts, t.length ≤ 255) → fldL ts.length ⟨ts.flatMap fieldB ++ b, false⟩ l = (l ++ ts, ⟨b, false⟩)
  | [], l, b, _ => by simp [fldL]
  | t :: ts, l, b, h => by
    have e : (t :: ts).flatMap fieldB ++ b = byteOf t.length :: (t ++ (ts.flatMap fieldB ++ b)) := by simp [fieldB]
    have ht := h t (List.mem_cons_self ..)
    rw [e, List.length_cons, fldL, numF_cons, byteOf_len ht]
    dsimp only
    rw [takeF_2 (by simp only [List.length_append]; omega)]
    dsimp only
    rw [List.take_left, List.drop_left, fldL_put (fun t ht => h t (List.mem_cons_of_mem _ ht))]
    simp
theorem fieldsF_put {ts : List Str} (hl : ts.length ≤ 255) (h : ∀ t ∈ ts, t.length ≤ 255) : fieldsF ⟨byteOf ts.length :: ts.flatMap fieldB, false⟩ = (ts, ⟨[], false⟩) := by
  have hb : (byteOf (ts.length : Int)).toNat = ts.length := by have := byteOf_nat ts.length; omega
  unfold fieldsF
  rw [numF_cons, hb]
  have := fldL_put (l := []) (b := []) h
  simpa using this
end Go.AM

/- Plain laws: pages, drawn pages, the bytes of pages. -/
namespace Go.AM
def pTexts : List Str := [[], [], [114, 101, 99], [114, 101, 99, 111, 114, 100], List.replicate 30 0]
theorem pTexts_len : ∀ t ∈ pTexts, t.length ≤ 30 := by decide +kernel
structure PG (p : Page) : Prop where
  ln : p.slots.length = 4
  st : ∀ t ∈ p.slots, t.length ≤ 30
  ls : 0 ≤ p.lsn ∧ p.lsn ≤ 1000
theorem PG.ok {p : Page} (h : PG p) : pageOK p = true := by
  unfold pageOK
  have h1 : inR p.lsn 0 1000 = true := inR_iff.2 h.ls
  have h2 : p.slots.any (fun s => decide (30 < s.length)) = false := by
    rw [List.any_eq_false]; intro t ht; have := h.st t ht; simp; omega
  rw [h1, h2, h.ln]; rfl
theorem PG.w {p : Page} (h : PG p) : p.slots.length ≤ 1048576 := by have := h.ln; omega
theorem set_st {l : List Str} {k m : Nat} {x : Str} (h : ∀ t ∈ l, t.length ≤ m) (hx : x.length ≤ m) : ∀ t ∈ l.set k x, t.length ≤ m := fun t ht => by
  rcases List.mem_or_eq_of_mem_set ht with q | q
  · exact h t q
  · rw [q]; exact hx
theorem nil4 : ∀ t ∈ ([[], [], [], []] : List Str), t.length ≤ 30 := by decide
def hdP (p : Page) : Bool := !inR p.lsn 0 1000 || !decide ((p.slots.length : Int) = 4)
theorem hdP_len {p : Page} (h : hdP p = false) : p.slots.length = 4 := by
  unfold hdP at h; simp only [Bool.or_eq_false_iff, Bool.not_eq_false', decide_eq_true_eq] at h; omega
theorem pageOK_int {p : Page} : pageOK p = ((inR p.lsn 0 1000 && decide ((p.slots.length : Int) = 4)) && !p.slots.any (fun s => decide ((30 : Int) < (s.length : Int)))) := by
  unfold pageOK
  rw [show decide ((p.slots.length : Int) = 4) = decide (p.slots.length = 4) from decide_eq_decide.2 (by omega), show (fun s : Str => decide ((30 : Int) < (s.length : Int))) = fun s => decide (30 < s.length) from funext fun s => decide_eq_decide.2 (by omega)]
theorem hdP_in {p : Page} (h : hdP p = false) : (inR p.lsn 0 1000 && decide ((p.slots.length : Int) = 4)) = true := by
  unfold hdP at h; simp only [Bool.or_eq_false_iff, Bool.not_eq_false'] at h; rw [h.1, h.2]; rfl
theorem pageOK_hd {p : Page} (h : hdP p = true) : pageOK p = false := by
  rw [pageOK_int]; unfold hdP at h
  cases h1 : inR p.lsn 0 1000 with
  | false => rfl
  | true => rw [h1] at h; simp only [Bool.not_true, Bool.false_or, Bool.not_eq_true'] at h; rw [h]; rfl
noncomputable def samP (x y : Page) : Bool := decide (x.lsn = y.lsn) && eqb x.slots y.slots
theorem samP_rfl {x : Page} : samP x x = true := by unfold samP; rw [eqb_rfl]; simp
theorem idx_eq {xs : List Str} : idxOf (fun s => eqb [] s) xs 0 = idxOf (fun s => decide (s = [])) xs 0 := by
  rw [show (fun s : Str => eqb [] s) = fun s => decide (s = []) from funext fun s => by by_cases h : s = [] <;> simp [h, eqb_rfl, eqb_f, Ne.symm]]
theorem getDs {l : List Str} {i : Nat} (h : i < l.length) : l.getD i [] = l[i] := by simp [List.getD, h]
theorem set_get {p : Page} {i : Nat} {a n : Int} {x : Str} (hi : i < p.slots.length) (ha : 0 ≤ a) : (⟨n, p.slots.set a.toNat x⟩ : Page).slots.getD i [] = if (i : Int) = a then x else p.slots.getD i [] := by
  dsimp only
  by_cases h : (i : Int) = a
  · rw [if_pos h, show a.toNat = i from by omega]; simp [List.getD, hi]
  · rw [if_neg h, List.getD_eq_getElem?_getD, List.getElem?_set_ne (by omega), List.getD_eq_getElem?_getD]
theorem rows_all {l : Str} : (((l.map byteRow).drop 0).take l.length) = l.map byteRow := by simp [List.take_of_length_le]
def usedK (ts : List Str) (k : Nat) : Nat := (ts.take k).countP (fun s => decide (s ≠ []))
def usedN (ts : List Str) : Nat := usedK ts ts.length
theorem usedK_t {ts : List Str} {k : Nat} (hk : k < ts.length) (h : ts[k] ≠ []) : usedK ts (k + 1) = usedK ts k + 1 := by
  unfold usedK; rw [take_succ hk, List.countP_append]; simp [h]
theorem usedK_f {ts : List Str} {k : Nat} (hk : k < ts.length) (h : ts[k] = []) : usedK ts (k + 1) = usedK ts k := by
  unfold usedK; rw [take_succ hk, List.countP_append]; simp [h]
theorem usedK_le {ts : List Str} {k : Nat} : usedK ts k ≤ k := Nat.le_trans (List.countP_le_length) (by rw [List.length_take]; omega)
theorem four_of {l : List Str} (h : l.length = 4) : ∃ a b c d, l = [a, b, c, d] := by
  match l, h with
  | [a, b, c, d], _ => exact ⟨a, b, c, d, rfl⟩
theorem ins_fact {p : Page} {F : Str} (h : PG p) (h0 : F ≠ []) (h1 : F.length ≤ 30) : ∃ q k c, pageInsert p F = (q, k, c) ∧ q.slots.length = 4 ∧ 0 ≤ k ∧ k < 4 ∧
    ((c = 7 ∧ usedN p.slots = 4) ∨ (c = 0 ∧ usedN p.slots ≠ 4 ∧ pageOK q = true ∧ usedN q.slots = usedN p.slots + 1 ∧ q.slots.getD k.toNat [] = F ∧ p.slots.getD k.toNat [] = [])) := by
  have hok := h.ok
  have hF : inR F.length 1 30 = true := inR_iff.2 ⟨by cases F with | nil => exact absurd rfl h0 | cons a b => simp; omega, by omega⟩
  obtain ⟨a, b, c, d, hs⟩ := four_of h.ln
  have hq : ∀ k, pageOK ⟨p.lsn, p.slots.set k F⟩ = true := fun k => PG.ok ⟨by simp [h.ln], set_st h.st h1, h.ls⟩
  have e : pageInsert p F = if idxOf (fun s => decide (s = [])) p.slots 0 < 0 then (p, 0, 7) else (⟨p.lsn, p.slots.set (idxOf (fun s => decide (s = [])) p.slots 0).toNat F⟩, idxOf (fun s => decide (s = [])) p.slots 0, 0) := by
    unfold pageInsert; rw [if_neg (by omega), if_neg (by rw [hok]; simp), if_neg (by rw [hF]; simp)]
  have go : ∀ k : Nat, k < 4 → idxOf (fun s => decide (s = [])) p.slots 0 = k → usedN p.slots ≠ 4 → usedN (p.slots.set k F) = usedN p.slots + 1 → p.slots.getD k [] = [] → _ := fun k hk hi hu hu2 hg =>
    (⟨⟨p.lsn, p.slots.set k F⟩, k, 0, by rw [e, hi, if_neg (by omega)]; rfl, by simp [h.ln], by omega, by omega, .inr ⟨rfl, hu, hq k, hu2, by simp [List.getD, h.ln, hk], hg⟩⟩ :
      ∃ q k c, pageInsert p F = (q, k, c) ∧ q.slots.length = 4 ∧ 0 ≤ k ∧ k < 4 ∧
    ((c = 7 ∧ usedN p.slots = 4) ∨ (c = 0 ∧ usedN p.slots ≠ 4 ∧ pageOK q = true ∧ usedN q.slots = usedN p.slots + 1 ∧ q.slots.getD k.toNat [] = F ∧ p.slots.getD k.toNat [] = [])))
  have hln := h.ln; rw [hs] at go e hln ⊢
  by_cases ha : a = []
  · subst ha
    exact go 0 (by omega) (by simp [idxOf]) (by simp only [usedN, usedK, List.length_cons, List.length_nil, List.take, List.countP_cons, List.countP_nil]; simp; split <;> split <;> split <;> omega) (by simp [usedN, usedK, List.countP_cons, h0]) rfl
  by_cases hb : b = []
  · subst hb
    exact go 1 (by omega) (by simp [idxOf, ha]) (by simp only [usedN, usedK, List.length_cons, List.length_nil, List.take, List.countP_cons, List.countP_nil]; simp [ha]; split <;> split <;> omega) (by simp [usedN, usedK, List.countP_cons, h0, ha]) rfl
  by_cases hc : c = []
  · subst hc
    exact go 2 (by omega) (by simp [idxOf, ha, hb]) (by simp only [usedN, usedK, List.length_cons, List.length_nil, List.take, List.countP_cons, List.countP_nil]; simp [ha, hb]; split <;> omega) (by simp [usedN, usedK, List.countP_cons, h0, ha, hb]) rfl
  by_cases hd : d = []
  · subst hd
    exact go 3 (by omega) (by simp [idxOf, ha, hb, hc]) (by simp [usedN, usedK, List.countP_cons, ha, hb, hc]) (by simp [usedN, usedK, List.countP_cons, h0, ha, hb, hc]) rfl
  exact ⟨p, 0, 7, by rw [e, if_pos (by simp [idxOf, ha, hb, hc, hd])], h.ln, by omega, by omega, .inl ⟨rfl, by simp [usedN, usedK, List.countP_cons, ha, hb, hc, hd]⟩⟩
theorem set_ok {p : Page} {k : Int} {F : Str} {n : Int} (h : PG p) (hk : 0 ≤ k ∧ k < 4) (h1 : F.length ≤ 30) (hn : 0 ≤ n ∧ n ≤ 1000) : pageSet p k F n = (⟨n, p.slots.set k.toNat F⟩, 0) ∧ PG ⟨n, p.slots.set k.toNat F⟩ := by
  refine ⟨(pageSet_set (by omega) h.ok ?_).1, ⟨by simp [h.ln], set_st h.st h1, hn⟩⟩
  rw [inR_iff.2 (show 0 ≤ k ∧ k ≤ 3 by omega), inR_iff.2 hn]; simp; omega
theorem putFs_app {b : Str} {ts : List Str} : b ++ putFs [] ts = putFs b ts := by
  unfold putFs putK; simp
theorem putFs_len {b : Str} {ts : List Str} : (putFs b ts).length = b.length + (putFs [] ts).length := by rw [← putFs_app (b := b), List.length_append]
/-- The bytes of a page. -/
def pbF (no : Int) (p : Page) : Str := sealB (putFs [112, byteOf no, shB p.lsn 8, byteOf p.lsn] p.slots)
def hdF (b : Str) : Str := (takeF ⟨b, false⟩ 4).1
def rdP (b : Str) : Page := ⟨bigN ((hdF b).drop 2), (fieldsF (takeF ⟨b, false⟩ 4).2).1⟩
def rdE (b : Str) : Rd := (fieldsF (takeF ⟨b, false⟩ 4).2).2
def badP (no : Int) (b : Str) : Bool := ((!doneF (rdE b) || !decide ((((hdF b).getD 0 0).toNat : Int) = 112)) || !decide ((((hdF b).getD 1 0).toNat : Int) = no)) || !pageOK (rdP b)
def rpF (no : Int) (b : Str) : Page × Int := if 65536 < (b.length : Int) then (.zero, 2) else if (unsealF b).2 = false then (.zero, 8) else if badP no (unsealF b).1 = true then (.zero, 3) else (rdP (unsealF b).1, 0)
section
variable {no : Int} {b : Str}
theorem rpF_1 (h : 65536 < (b.length : Int)) : rpF no b = (.zero, 2) := by unfold rpF; rw [if_pos h]
theorem rpF_2 (h : ¬ 65536 < (b.length : Int)) (h1 : (unsealF b).2 = false) : rpF no b = (.zero, 8) := by unfold rpF; rw [if_neg h, if_pos h1]
theorem rpF_3 (h : ¬ 65536 < (b.length : Int)) (h1 : (unsealF b).2 = true) (h2 : badP no (unsealF b).1 = true) : rpF no b = (.zero, 3) := by unfold rpF; rw [if_neg h, if_neg (by rw [h1]; simp), if_pos h2]
theorem rpF_4 (h : ¬ 65536 < (b.length : Int)) (h1 : (unsealF b).2 = true) (h2 : badP no (unsealF b).1 = false) : rpF no b = (rdP (unsealF b).1, 0) := by unfold rpF; rw [if_neg h, if_neg (by rw [h1]; simp), if_neg (by rw [h2]; simp)]
end
theorem hdF_len {b : Str} : (hdF b).length = 4 := takeF_len.1
theorem pb_len {no : Int} {p : Page} (h : PG p) : (pbF no p).length ≤ 160 := by
  unfold pbF putFs; rw [seal_len, putK_len]
  have := lenK_le (k := p.slots.length) h.st
  rw [h.ln] at this ⊢
  simp only [List.length_cons, List.length_nil]; omega
theorem rp_pb {no nx : Int} {p : Page} (h : PG p) (hn : 0 ≤ no ∧ no ≤ 255) : rpF nx (pbF no p) = if no = nx then (p, 0) else (.zero, 3) := by
  have hl := pb_len (no := no) h
  have hu : unsealF (pbF no p) = (putFs [112, byteOf no, shB p.lsn 8, byteOf p.lsn] p.slots, true) := unseal_seal
  have e : putFs [112, byteOf no, shB p.lsn 8, byteOf p.lsn] p.slots = [112, byteOf no, shB p.lsn 8, byteOf p.lsn] ++ (byteOf p.slots.length :: p.slots.flatMap fieldB) := by
    unfold putFs putK; rw [List.take_of_length_le (Nat.le_refl _)]; simp
  have et : takeF ⟨putFs [112, byteOf no, shB p.lsn 8, byteOf p.lsn] p.slots, false⟩ 4 = ([112, byteOf no, shB p.lsn 8, byteOf p.lsn], ⟨byteOf p.slots.length :: p.slots.flatMap fieldB, false⟩) := by
    rw [e, takeF_2 (by simp; omega)]; rfl
  have ef : fieldsF ⟨byteOf p.slots.length :: p.slots.flatMap fieldB, false⟩ = (p.slots, ⟨[], false⟩) := fieldsF_put (by have := h.ln; omega) (fun t ht => by have := h.st t ht; omega)
  have ep : rdP (unsealF (pbF no p)).1 = p := by
    rw [hu]; unfold rdP hdF; rw [et, ef]
    show (⟨(bigN (twoB p.lsn) : Int), p.slots⟩ : Page) = p
    have hls := h.ls
    have : ((p.lsn.toNat : Nat) : Int) = p.lsn := by omega
    rw [← this, bigN_two (by omega), this]
  have eb : badP nx (unsealF (pbF no p)).1 = !decide (no = nx) := by
    unfold badP; rw [ep, h.ok]; rw [hu]; unfold rdE hdF; rw [et, ef]
    have hb := byteOf_nat no
    rw [show no % 256 = no from by omega] at hb
    show (((!true || !true) || !decide (((byteOf no).toNat : Int) = nx)) || false) = _
    rw [hb]; simp
  by_cases hx : no = nx
  · rw [rpF_4 (by omega) (by rw [hu]) (by rw [eb, decide_eq_true hx]; rfl), ep, if_pos hx]
  · rw [rpF_3 (by omega) (by rw [hu]) (by rw [eb, decide_eq_false hx]; rfl), if_neg hx]
end Go.AM

/- Plain data of the program: more structs. -/
namespace Go.AM
set_option linter.unusedVariables false
structure GLogRecord where
  Epoch : Int
  Lsn : Int
  Tx : Int
  Kind : Int
  Prev : Int
  Next : Int
  Page : Int
  Slot : Int
  Before : Str
  After : Str
def GLogRecord.av (x : GLogRecord) : AV := .agg [.d (.int .i64 x.Epoch), .d (.int .i64 x.Lsn), .d (.int .i64 x.Tx), .d (.int .i64 x.Kind), .d (.int .i64 x.Prev), .d (.int .i64 x.Next), .d (.int .i64 x.Page), .d (.int .i64 x.Slot), .d (.str x.Before), .d (.str x.After)]
theorem GLogRecord.ext1 {a b : GLogRecord} (h0 : a.Epoch = b.Epoch) (h1 : a.Lsn = b.Lsn) (h2 : a.Tx = b.Tx) (h3 : a.Kind = b.Kind) (h4 : a.Prev = b.Prev) (h5 : a.Next = b.Next) (h6 : a.Page = b.Page) (h7 : a.Slot = b.Slot) (h8 : a.Before = b.Before) (h9 : a.After = b.After) : a = b := by cases a; cases b; simp_all
def GLogRecord.row (x : GLogRecord) : List D := [.int .i64 x.Epoch, .int .i64 x.Lsn, .int .i64 x.Tx, .int .i64 x.Kind, .int .i64 x.Prev, .int .i64 x.Next, .int .i64 x.Page, .int .i64 x.Slot, .str x.Before, .str x.After]
def GLogRecord.wf (x : GLogRecord) : Prop := wfInt x.Epoch ∧ wfInt x.Lsn ∧ wfInt x.Tx ∧ wfInt x.Kind ∧ wfInt x.Prev ∧ wfInt x.Next ∧ wfInt x.Page ∧ wfInt x.Slot ∧ wfStr x.Before ∧ wfStr x.After
def GLogRecord.sz (x : GLogRecord) : Nat := x.Before.length + x.After.length
def GLogRecord.zero : GLogRecord := ⟨0, 0, 0, 0, 0, 0, 0, 0, [], []⟩
theorem GLogRecord.dec {P : Program} {t : TypeId} {fs : Array Field} {f0 f1 f2 f3 f4 f5 f6 f7 f8 f9 : Field} (h : P.underlying t = some (.struct fs)) (hfs : fs.toList = [f0, f1, f2, f3, f4, f5, f6, f7, f8, f9]) (d0 : Dec P f0.type intRow wfInt) (d1 : Dec P f1.type intRow wfInt) (d2 : Dec P f2.type intRow wfInt) (d3 : Dec P f3.type intRow wfInt) (d4 : Dec P f4.type intRow wfInt) (d5 : Dec P f5.type intRow wfInt) (d6 : Dec P f6.type intRow wfInt) (d7 : Dec P f7.type intRow wfInt) (d8 : Dec P f8.type strRow wfStr) (d9 : Dec P f9.type strRow wfStr) : Dec P t GLogRecord.row GLogRecord.wf := fun hc => by
  have g := hasC_struct h hc
  rw [hfs] at g
  obtain ⟨a0, b0, e0, c0, g⟩ := hasFs_cons g
  obtain ⟨x0, r0, w0⟩ := d0 c0
  obtain ⟨a1, b1, e1, c1, g⟩ := hasFs_cons g
  obtain ⟨x1, r1, w1⟩ := d1 c1
  obtain ⟨a2, b2, e2, c2, g⟩ := hasFs_cons g
  obtain ⟨x2, r2, w2⟩ := d2 c2
  obtain ⟨a3, b3, e3, c3, g⟩ := hasFs_cons g
  obtain ⟨x3, r3, w3⟩ := d3 c3
  obtain ⟨a4, b4, e4, c4, g⟩ := hasFs_cons g
  obtain ⟨x4, r4, w4⟩ := d4 c4
  obtain ⟨a5, b5, e5, c5, g⟩ := hasFs_cons g
  obtain ⟨x5, r5, w5⟩ := d5 c5
  obtain ⟨a6, b6, e6, c6, g⟩ := hasFs_cons g
  obtain ⟨x6, r6, w6⟩ := d6 c6
  obtain ⟨a7, b7, e7, c7, g⟩ := hasFs_cons g
  obtain ⟨x7, r7, w7⟩ := d7 c7
  obtain ⟨a8, b8, e8, c8, g⟩ := hasFs_cons g
  obtain ⟨x8, r8, w8⟩ := d8 c8
  obtain ⟨a9, b9, e9, c9, g⟩ := hasFs_cons g
  obtain ⟨x9, r9, w9⟩ := d9 c9
  have z := hasFs_nil g
  exact ⟨⟨x0, x1, x2, x3, x4, x5, x6, x7, x8, x9⟩, by rw [e0, r0, e1, r1, e2, r2, e3, r3, e4, r4, e5, r5, e6, r6, e7, r7, e8, r8, e9, r9, z]; rfl, ⟨w0, w1, w2, w3, w4, w5, w6, w7, w8, w9⟩⟩
def GLogRecord.mk1 (k : Nat) (x : GLogRecord) : GLogRecord := ⟨((k : Nat) : Int), ((k + 1 : Nat) : Int), ((k + 2 : Nat) : Int), ((k + 3 : Nat) : Int), ((k + 4 : Nat) : Int), ((k + 5 : Nat) : Int), ((k + 6 : Nat) : Int), ((k + 7 : Nat) : Int), mkT (k + 8), mkT (k + 9)⟩
theorem GLogRecord.eq_iff {a b : GLogRecord} : a = b ↔ (a.Epoch = b.Epoch ∧ a.Lsn = b.Lsn ∧ a.Tx = b.Tx ∧ a.Kind = b.Kind ∧ a.Prev = b.Prev ∧ a.Next = b.Next ∧ a.Page = b.Page ∧ a.Slot = b.Slot ∧ a.Before = b.Before ∧ a.After = b.After) := by
  constructor
  · rintro rfl; exact ⟨rfl, rfl, rfl, rfl, rfl, rfl, rfl, rfl, rfl, rfl⟩
  · intro h; cases a; cases b; simp_all
theorem GLogRecord.q_eqs {C : Cx} {st : St} {neg : Bool} {x y : XA} {a b : GLogRecord} (hx : evA st.sl x = some a.av) (hy : evA st.sl y = some b.av) : QStep C st (.eqs neg [0, 0, 0, 0, 0, 0, 0, 0, 2, 2] x y) (bool (bif neg then !eqb a b else eqb a b)) := by
  refine q_as (Go.AM.q_eqs hx hy rfl) ?_
  have e : (decide (a.Epoch = b.Epoch) && (decide (a.Lsn = b.Lsn) && (decide (a.Tx = b.Tx) && (decide (a.Kind = b.Kind) && (decide (a.Prev = b.Prev) && (decide (a.Next = b.Next) && (decide (a.Page = b.Page) && (decide (a.Slot = b.Slot) && (decide (a.Before = b.Before) && (decide (a.After = b.After) && true)))))))))) = eqb a b := by
    rw [Bool.eq_iff_iff, eqb_iff, GLogRecord.eq_iff]; simp [Bool.and_eq_true]
  show bool (bif neg then !(decide (a.Epoch = b.Epoch) && (decide (a.Lsn = b.Lsn) && (decide (a.Tx = b.Tx) && (decide (a.Kind = b.Kind) && (decide (a.Prev = b.Prev) && (decide (a.Next = b.Next) && (decide (a.Page = b.Page) && (decide (a.Slot = b.Slot) && (decide (a.Before = b.Before) && (decide (a.After = b.After) && true)))))))))) else (decide (a.Epoch = b.Epoch) && (decide (a.Lsn = b.Lsn) && (decide (a.Tx = b.Tx) && (decide (a.Kind = b.Kind) && (decide (a.Prev = b.Prev) && (decide (a.Next = b.Next) && (decide (a.Page = b.Page) && (decide (a.Slot = b.Slot) && (decide (a.Before = b.Before) && (decide (a.After = b.After) && true))))))))))) = _
  rw [e]

structure GDirty where
  No : Int
  First : Int
def GDirty.av (x : GDirty) : AV := .agg [.d (.int .i64 x.No), .d (.int .i64 x.First)]
theorem GDirty.ext1 {a b : GDirty} (h0 : a.No = b.No) (h1 : a.First = b.First) : a = b := by cases a; cases b; simp_all
def GDirty.row (x : GDirty) : List D := [.int .i64 x.No, .int .i64 x.First]
def GDirty.wf (x : GDirty) : Prop := wfInt x.No ∧ wfInt x.First
def GDirty.zero : GDirty := ⟨0, 0⟩
theorem GDirty.dec {P : Program} {t : TypeId} {fs : Array Field} {f0 f1 : Field} (h : P.underlying t = some (.struct fs)) (hfs : fs.toList = [f0, f1]) (d0 : Dec P f0.type intRow wfInt) (d1 : Dec P f1.type intRow wfInt) : Dec P t GDirty.row GDirty.wf := fun hc => by
  have g := hasC_struct h hc
  rw [hfs] at g
  obtain ⟨a0, b0, e0, c0, g⟩ := hasFs_cons g
  obtain ⟨x0, r0, w0⟩ := d0 c0
  obtain ⟨a1, b1, e1, c1, g⟩ := hasFs_cons g
  obtain ⟨x1, r1, w1⟩ := d1 c1
  have z := hasFs_nil g
  exact ⟨⟨x0, x1⟩, by rw [e0, r0, e1, r1, z]; rfl, ⟨w0, w1⟩⟩
def GDirty.mk1 (k : Nat) (x : GDirty) : GDirty := ⟨((k : Nat) : Int), ((k + 1 : Nat) : Int)⟩
theorem GDirty.eq_iff {a b : GDirty} : a = b ↔ (a.No = b.No ∧ a.First = b.First) := by
  constructor
  · rintro rfl; exact ⟨rfl, rfl⟩
  · intro h; cases a; cases b; simp_all
theorem GDirty.q_eqs {C : Cx} {st : St} {neg : Bool} {x y : XA} {a b : GDirty} (hx : evA st.sl x = some a.av) (hy : evA st.sl y = some b.av) : QStep C st (.eqs neg [0, 0] x y) (bool (bif neg then !eqb a b else eqb a b)) := by
  refine q_as (Go.AM.q_eqs hx hy rfl) ?_
  have e : (decide (a.No = b.No) && (decide (a.First = b.First) && true)) = eqb a b := by
    rw [Bool.eq_iff_iff, eqb_iff, GDirty.eq_iff]; simp [Bool.and_eq_true]
  show bool (bif neg then !(decide (a.No = b.No) && (decide (a.First = b.First) && true)) else (decide (a.No = b.No) && (decide (a.First = b.First) && true))) = _
  rw [e]

structure GTx where
  Id : Int
  Last : Int
def GTx.av (x : GTx) : AV := .agg [.d (.int .i64 x.Id), .d (.int .i64 x.Last)]
theorem GTx.ext1 {a b : GTx} (h0 : a.Id = b.Id) (h1 : a.Last = b.Last) : a = b := by cases a; cases b; simp_all
def GTx.row (x : GTx) : List D := [.int .i64 x.Id, .int .i64 x.Last]
def GTx.wf (x : GTx) : Prop := wfInt x.Id ∧ wfInt x.Last
def GTx.zero : GTx := ⟨0, 0⟩
theorem GTx.dec {P : Program} {t : TypeId} {fs : Array Field} {f0 f1 : Field} (h : P.underlying t = some (.struct fs)) (hfs : fs.toList = [f0, f1]) (d0 : Dec P f0.type intRow wfInt) (d1 : Dec P f1.type intRow wfInt) : Dec P t GTx.row GTx.wf := fun hc => by
  have g := hasC_struct h hc
  rw [hfs] at g
  obtain ⟨a0, b0, e0, c0, g⟩ := hasFs_cons g
  obtain ⟨x0, r0, w0⟩ := d0 c0
  obtain ⟨a1, b1, e1, c1, g⟩ := hasFs_cons g
  obtain ⟨x1, r1, w1⟩ := d1 c1
  have z := hasFs_nil g
  exact ⟨⟨x0, x1⟩, by rw [e0, r0, e1, r1, z]; rfl, ⟨w0, w1⟩⟩
def GTx.mk1 (k : Nat) (x : GTx) : GTx := ⟨((k : Nat) : Int), ((k + 1 : Nat) : Int)⟩
theorem GTx.eq_iff {a b : GTx} : a = b ↔ (a.Id = b.Id ∧ a.Last = b.Last) := by
  constructor
  · rintro rfl; exact ⟨rfl, rfl⟩
  · intro h; cases a; cases b; simp_all
theorem GTx.q_eqs {C : Cx} {st : St} {neg : Bool} {x y : XA} {a b : GTx} (hx : evA st.sl x = some a.av) (hy : evA st.sl y = some b.av) : QStep C st (.eqs neg [0, 0] x y) (bool (bif neg then !eqb a b else eqb a b)) := by
  refine q_as (Go.AM.q_eqs hx hy rfl) ?_
  have e : (decide (a.Id = b.Id) && (decide (a.Last = b.Last) && true)) = eqb a b := by
    rw [Bool.eq_iff_iff, eqb_iff, GTx.eq_iff]; simp [Bool.and_eq_true]
  show bool (bif neg then !(decide (a.Id = b.Id) && (decide (a.Last = b.Last) && true)) else (decide (a.Id = b.Id) && (decide (a.Last = b.Last) && true))) = _
  rw [e]

end Go.AM

/- AM, part 42: an element of an own slice of slices; an element of an array that stands in a row. -/
namespace Go.AM
section
variable {C : Cx} {st : St}
theorem q_ixB {x i : XA} {k : IntKind} {n : Nat} {e len : Nat} (hx : evA st.sl x = some (.osl e 1 0 len)) (hi : evA st.sl i = some (.d (.int k (n : Int))))
    (hr : n < len) : QStep C st (.iadr 1 x i) (.ptr e n) := by
  intro op hf ac w β S
  obtain ⟨y, j, hy, hj, hrun⟩ := iadr_run (ac := ac) hf
  have h2 := AR_of_fitA S hy hx
  have h3 := AR_of_fitA S hj hi
  rw [AR] at h2
  rw [AR, DR] at h3
  obtain ⟨a, cap, h4, h5, h6⟩ := h2
  rcases h6 with h6 | ⟨b, c, ty, fr, h7, rfl, h8, h9⟩
  · omega
  refine ⟨_, ?_, fun w' _ => hrun w' k n b _ _ _ (by omega) (by omega) h4 h3⟩
  rw [AR]
  exact ⟨b, h7, by simp⟩
theorem q_iadrI {sz m : Nat} {x i : XA} {k : IntKind} {n : Int} {cs : List D} (hx : evA st.sl x = some (.d (.ip cs))) (hi : evA st.sl i = some (.d (.int k n)))
    (h0 : 0 ≤ n) (hr : n < m) : QStep C st (.iadrA sz m x i) (.d (.ip (cs.drop (n.toNat * sz)))) := by
  intro op hf ac w β S
  simp only [fits] at hf
  split at hf
  · rename_i t y j ho
    simp only [Bool.and_eq_true] at hf
    obtain ⟨⟨h1, h2⟩, h3⟩ := hf
    have h2 := AR_of_fitA S h2 hx
    have h3 := AR_of_fitA S h3 hi
    rw [AR, DR] at h2
    rw [AR, DR] at h3
    obtain ⟨b, o, h2, h4⟩ := h2
    split at h1
    · rename_i l el hu
      simp only [Bool.and_eq_true] at h1
      have := Nat.eq_of_beq_eq_true h1.1
      subst this
      refine ⟨.pointer (some ⟨b, o + n.toNat * sz, none⟩), ?_, fun w' _ => ?_⟩
      · rw [AR, DR]
        refine ⟨b, _, rfl, ?_⟩
        rcases h4 with h4 | ⟨h5, h6⟩
        · left; rw [h4]; simp
        · exact .inr ⟨h5, DRow_drop _ h6⟩
      · simp [execOp, ho, h2, h3, Instr.indexAt, asIntOf, run_underlying hu, Instr.sureAddr, h0, hr, szIs_some h1.2, add_spot]
    · cases h1
  · cases hf
end
end Go.AM
namespace Go.AM
section
variable {C : Cx} {gs : List Gd} {K : St → Prop}
theorem AL_app2 {X : Nat → Prop} {β : Names} {w : World} : ∀ {xs ys : List AV} {us vs : List Value}, AL X β w xs us → AL X β w ys vs → AL X β w (xs ++ ys) (us ++ vs)
  | [], ys, us, vs, h1, h2 => by rw [AL] at h1; subst h1; exact h2
  | x :: xs, ys, us, vs, h1, h2 => by
    rw [AL] at h1
    obtain ⟨v, r, rfl, h3, h4⟩ := h1
    rw [List.cons_append, List.cons_append, AL]
    exact ⟨v, _, rfl, h3, AL_app2 h4 h2⟩
/-- A function value among the data is called in a region that draws its order. -/
theorem ax_callvqD {sl : List (Nat × AV)} {own : List (Nat × OB)} {d : Nat} {x : XA} {f : Nat} {args : List XA} {its : List XI} {vs args0 : List AV} {ds : List D} {r : AV} {P : Program} {mv : Nat → Bool} {v : Value}
    (hx : evA sl x = some (.d (.fn (.func f) ds))) (hb : hasBody C.P f = true) (ha : evL sl args = some vs) (hcon : Con P mv f args0 [] (fun r' h' => r' = r ∧ h' = [])) (hP : C.P = P) (hl : LAL own (vs ++ ds.map AV.d) args0) (hv : scVal r = some v)
    (h : AXI C true gs its ⟨(d, r) :: sl, own⟩ K) : AXI C true gs (.callv (some d) x args :: its) ⟨sl, own⟩ K := by
  intro ops W R lo i k hf rest a w S G H
  subst hP
  obtain ⟨m, h1, h2, h3, h4⟩ := fitIs_cons hf
  obtain ⟨o, y, as, ts, ho, hop, hg, hd, hfr, hy, hfx, rfl⟩ := callv_fit h1
  rw [range_split (by omega) h4, range_one, List.append_assoc, List.singleton_append]
  obtain ⟨β, S⟩ := S
  have hF := AR_of_fitA S hy hx
  rw [AR, DR] at hF
  obtain ⟨cv, hF, _⟩ := hF
  refine R.callq rfl i _ a w o f (as.map a.eval ++ cv) v ho (wanted_of hg G) ?_ ?_
  · intro w' hw'
    have S' := S.ext hw'
    have hA := AL_of_fits S' hfx ha
    have hF' := AR_of_fitA S' hy hx
    rw [AR, DR] at hF'
    obtain ⟨cv', hF', hC⟩ := hF'
    rw [hF] at hF'
    simp only [Value.func.injEq, true_and] at hF'
    subst hF'
    refine ⟨by simp [execOp, hop, resolve, hF, Deferred.ofValue, invoke, callFunc_run hb], ?_⟩
    have e1 : as.map a.eval ++ cv = (as.toList.map a.eval ++ cv.toList).toArray := by simp
    rw [e1]
    have hA' := LAL.al (X' := C.X) (β' := noN) S'.hr (fun b hb => ⟨hb.1, fun e he => by cases he⟩) (fun e b _ hb => ⟨S'.hr.notX e b hb, fun e he => by cases he⟩) hl (AL_app2 hA (DL_AL hC))
    refine (hcon C.X noN w' _ (fun b hb => by have := S'.xlt b hb; have := S'.fr.size; omega) (fun e b h => by cases h) ⟨fun e e' b h => (by cases h), fun e b h => (by cases h), fun e b h => (by cases h), fun e ob h => (by simp [get] at h)⟩ hA').mono ?_
    rintro e w'' ⟨u, r', h', β', he, ⟨rfl, rfl⟩, hr, _, F, _⟩
    rw [(scVal_iff hv _ _ _ _).1 hr] at he
    exact ⟨he, hw'.trans ⟨F.os, F.tape, F.output, F.size, fun b hb => F.same b hb (fun e h => by cases h)⟩⟩
  · rw [hd]
    exact h ops W R lo (i + 1) k h2 rest _ w ⟨β, S.put (dstFree_lt hfr d rfl) ((scVal_iff hv _ _ _ _).2 rfl)⟩ (G.put hfr) H
end
end Go.AM
namespace Go.AM
theorem plain_map : ∀ (ds : List D), plainL (ds.map AV.d) = true
  | [] => rfl
  | d :: ds => by rw [List.map_cons, plainL, plain_map ds]; rfl
theorem plain_cons2 {x y : AV} (h : plain x = true) (h2 : plain y = true) (ds : List D) : plainL ([x, y] ++ ds.map AV.d) = true := by
  show plainL (x :: y :: ds.map AV.d) = true
  rw [plainL, h, plainL, h2, plain_map]; rfl
end Go.AM

