/- Plain laws about strings, marks, types of the program and what its functions compute; readings of arguments (part 0). -/
import Derived.Test.YtnkaifkejkabhaaC
set_option linter.unusedVariables false
set_option linter.unusedSimpArgs false
/- Plain data of the program, as Lean sees it: strings, rows of strings, marks. -/
namespace Go.AM

abbrev Str := List UInt8
def strRow (s : Str) : List D := [.str s]
def strs (xs : List Str) : D := .sl 1 (xs.map strRow)

/-- What 'sz..' counts. -/
def szF (left : Int) (n : Nat) : Int := if (n : Int) ≤ left then left - n else -1
def sumL : List Str → Nat
  | [] => 0
  | s :: r => s.length + sumL r
def szStrs (xs : List Str) : Nat := xs.length + sumL xs
theorem sumL_append : ∀ (a b : List Str), sumL (a ++ b) = sumL a + sumL b
  | [], b => by simp [sumL]
  | x :: a, b => by rw [List.cons_append, sumL, sumL, sumL_append a b]; omega
theorem take_succ {α : Type} {xs : List α} {k : Nat} (h : k < xs.length) : xs.take (k + 1) = xs.take k ++ [xs[k]] := by
  rw [List.take_add_one, List.getElem?_eq_getElem h]; rfl
theorem sumL_take {xs : List Str} {k : Nat} (h : k < xs.length) : sumL (xs.take (k + 1)) = sumL (xs.take k) + xs[k].length := by
  rw [take_succ h, sumL_append]; simp [sumL]
theorem sumL_le (xs : List Str) (k : Nat) : sumL (xs.take k) ≤ sumL xs := by
  conv => rhs; rw [← List.take_append_drop k xs]
  rw [sumL_append]; omega
theorem sumL_mem {xs : List Str} {s : Str} (h : s ∈ xs) : s.length ≤ sumL xs := by
  induction xs with
  | nil => cases h
  | cons x r ih =>
    rw [sumL]
    rcases List.mem_cons.1 h with rfl | h
    · omega
    · have := ih h; omega

/-- Lengths that Go has. -/
def wfStrs (xs : List Str) : Prop := xs.length ≤ 9223372036854775807 ∧ ∀ s ∈ xs, s.length ≤ 9223372036854775807

/-! Marks. -/
def digs : Nat → Nat → Str → Str
  | 0, _, out => out
  | f + 1, n, out => if n = 0 then out else digs f (n / 10) (UInt8.ofNat (48 + n % 10) :: out)
def mkT (k : Nat) : Str := if k = 0 then [109, 48] else 109 :: digs 20 k []
def marks (k n : Nat) : List Str := (List.range n).map fun i => mkT (k + i)
theorem marks_length (k n : Nat) : (marks k n).length = n := by simp [marks]
theorem marks_get {k n i : Nat} (h : i < n) : (marks k n)[i]? = some (mkT (k + i)) := by simp [marks, h]

theorem decide_iff {p q : Prop} [Decidable p] [Decidable q] (h : p ↔ q) : decide p = decide q := by
  by_cases hp : p
  · rw [decide_eq_true hp, decide_eq_true (h.1 hp)]
  · rw [decide_eq_false hp, decide_eq_false (fun hq => hp (h.2 hq))]
theorem eq_of_take {α : Type} {xs ys : List α} (hl : xs.length = ys.length) (h : xs.take xs.length = ys.take xs.length) : xs = ys := by
  rw [List.take_length] at h
  rw [h, hl, List.take_length]
theorem take_step {α : Type} {xs ys : List α} {k : Nat} (hx : k < xs.length) (hy : k < ys.length) (h : xs.take k = ys.take k) (he : xs[k] = ys[k]) : xs.take (k + 1) = ys.take (k + 1) := by
  rw [take_succ hx, take_succ hy, h, he]

structure Page where
  lsn : Int
  slots : List Str
def Page.av (p : Page) : AV := .agg [int p.lsn, .d (strs p.slots)]

theorem lend_whole {own : List (Nat × OB)} {e sz len : Nat} {rs : List (List D)} (h : get own e = some (.rows sz rs)) (hl : len = rs.length) : Lend own (.osl e sz 0 len) (.sl sz rs) :=
  .osl h (by omega) (by rw [List.drop_zero, hl, List.take_length])
end Go.AM

/- Plain laws: pages. -/
namespace Go.AM

def inR (n lo hi : Int) : Bool := decide (lo ≤ n) && decide (n ≤ hi)
def Page.zero : Page := ⟨0, []⟩
/-- A page whose slots are own. -/
abbrev pageO (e : Nat) (p : Page) : AV := .agg [int p.lsn, .osl e 1 0 p.slots.length]
abbrev pageH (e : Nat) (p : Page) : List (Nat × OB) := [(e, .rows 1 (p.slots.map strRow))]

def pageOK (p : Page) : Bool := inR p.lsn 0 1000 && decide (p.slots.length = 4) && !p.slots.any (fun s => decide (30 < s.length))
def pageSet (p : Page) (slot : Int) (data : Str) (lsn : Int) : Page × Int :=
  if (65536 : Int) < (data.length : Int) then (.zero, 2) else
  if pageOK p = false then (.zero, 1) else
  if (!inR slot 0 3 || decide ((30 : Int) < (data.length : Int)) || !inR lsn 0 1000) = true then (.zero, 4) else
  (⟨lsn, p.slots.set slot.toNat data⟩, 0)
def idxOf {α : Type} (p : α → Bool) : List α → Nat → Int
  | [], _ => -1
  | x :: xs, k => if p x then k else idxOf p xs (k + 1)
def pageInsert (p : Page) (data : Str) : Page × Int × Int :=
  if (65536 : Int) < (data.length : Int) then (.zero, 0, 2) else
  if pageOK p = false then (.zero, 0, 1) else
  if inR data.length 1 30 = false then (.zero, 0, 4) else
  let k := idxOf (fun s => decide (s = [])) p.slots 0
  if k < 0 then (p, 0, 7) else (⟨p.lsn, p.slots.set k.toNat data⟩, k, 0)

/-- Not found so far. -/
theorem idxOf_step {α : Type} {p : α → Bool} : ∀ {xs : List α} {k j : Nat}, (∀ i, i < k → ∀ x, xs[i]? = some x → p x = false) → idxOf p xs j = idxOf p (xs.drop k) (j + k)
  | xs, 0, j, _ => by simp
  | [], k + 1, j, _ => by simp [idxOf]
  | x :: xs, k + 1, j, h => by
    rw [idxOf, h 0 (by omega) x rfl, List.drop_succ_cons, if_neg (by simp)]
    rw [idxOf_step (k := k) (j := j + 1) (fun i hi y hy => h (i + 1) (by omega) y (by simpa using hy))]
    congr 1; omega
theorem idxOf_hit {α : Type} {p : α → Bool} {xs : List α} {k : Nat} (hk : k < xs.length) (h : ∀ i, i < k → ∀ x, xs[i]? = some x → p x = false) (hp : p xs[k] = true) : idxOf p xs 0 = k := by
  rw [idxOf_step h, List.drop_eq_getElem_cons hk, idxOf, if_pos hp]; simp
theorem idxOf_none {α : Type} {p : α → Bool} {xs : List α} (h : ∀ i, i < xs.length → ∀ x, xs[i]? = some x → p x = false) : idxOf p xs 0 = -1 := by
  rw [idxOf_step h, List.drop_length, idxOf]
theorem before_step {α : Type} {p : α → Bool} {xs : List α} {k : Nat} (hk : k < xs.length) (h : ∀ i, i < k → ∀ x, xs[i]? = some x → p x = false) (hp : p xs[k] = false) : ∀ i, i < k + 1 → ∀ x, xs[i]? = some x → p x = false := by
  intro i hi x hx
  rcases Nat.lt_or_ge i k with h' | h'
  · exact h i h' x hx
  · have : i = k := by omega
    subst this
    rw [List.getElem?_eq_getElem hk] at hx; cases hx; exact hp
theorem any_idxOf {α : Type} {p : α → Bool} : ∀ {xs : List α} {k : Nat}, decide (0 ≤ idxOf p xs k) = xs.any p
  | [], k => by simp [idxOf]
  | x :: xs, k => by
    rw [idxOf, List.any_cons]
    cases hp : p x with
    | true => simp
    | false => rw [if_neg (by simp), any_idxOf, Bool.false_or]
theorem idxOf_lt {α : Type} {p : α → Bool} : ∀ {xs : List α} {k : Nat}, idxOf p xs k < k + xs.length ∧ -1 ≤ idxOf p xs k
  | [], k => by simp [idxOf]; omega
  | x :: xs, k => by
    rw [idxOf]
    split
    · simp; omega
    · have := idxOf_lt (p := p) (xs := xs) (k := k + 1)
      simp only [List.length_cons]
      omega
theorem any_all {α : Type} {p : α → Bool} {xs : List α} (h : ∀ i, i < xs.length → ∀ x, xs[i]? = some x → p x = false) : xs.any p = false := by
  rw [← any_idxOf (k := 0), idxOf_none h]; rfl
theorem any_hit {α : Type} {p : α → Bool} {xs : List α} {k : Nat} (hk : k < xs.length) (hp : p xs[k] = true) : xs.any p = true :=
  List.any_eq_true.2 ⟨_, List.getElem_mem hk, hp⟩
end Go.AM

/- Plain laws that walks of the generated helpers need. -/
namespace Go.AM
theorem strs_len {xs : List Str} : (xs.map strRow).length = xs.length := List.length_map _
theorem digs0 : ∀ {f : Nat} {o : Str}, digs f 0 o = o
  | 0, o => rfl
  | f + 1, o => by rw [digs, if_pos rfl]
theorem byteConv {n : Nat} (h : n < 256) : AV.d (.int .u8 (wr .u8 (n : Int))) = .d (.int .u8 ((UInt8.ofNat n).toNat : Int)) := by
  have : (UInt8.ofNat n).toNat = n := by simp [Nat.mod_eq_of_lt h]
  rw [this]
  unfold wr; simp [IntKind.wrap, IntKind.bits, IntKind.signed]; omega
theorem fillAt {xs : List Str} {k : Nat} {z : List D} (h : k < xs.length) : ((xs.take k).map strRow ++ List.replicate (xs.length - k) z)[k]? = some z := by
  have hl : ((xs.take k).map strRow).length = k := by simp; omega
  rw [List.getElem?_append_right (by omega), hl, Nat.sub_self, List.getElem?_replicate, if_pos (by omega)]
theorem fillSet {xs : List Str} {k : Nat} {z : List D} (h : k < xs.length) : ((xs.take k).map strRow ++ List.replicate (xs.length - k) z).set k (strRow xs[k]) = (xs.take (k + 1)).map strRow ++ List.replicate (xs.length - (k + 1)) z := by
  have hl : ((xs.take k).map strRow).length = k := by simp; omega
  rw [List.set_append_right _ _ (by omega), hl, Nat.sub_self, show xs.length - k = (xs.length - (k + 1)) + 1 from by omega, List.replicate_succ, List.set_cons_zero, take_succ h, List.map_append, List.append_assoc]
  rfl
theorem markAt {xs : List Str} {k k0 : Nat} (h : k < xs.length) : ((marks k0 k ++ xs.drop k).map strRow)[k]? = some (strRow xs[k]) := by
  rw [List.getElem?_map, List.getElem?_append_right (by rw [marks_length]; exact Nat.le_refl _), marks_length]
  simp [h]
theorem marks_succ (k0 k : Nat) : marks k0 (k + 1) = marks k0 k ++ [mkT (k0 + k)] := by
  unfold marks; rw [List.range_succ, List.map_append]; rfl
theorem markSet {xs : List Str} {k k0 : Nat} (h : k < xs.length) : ((marks k0 k ++ xs.drop k).map strRow).set k (strRow (mkT (k0 + k))) = (marks k0 (k + 1) ++ xs.drop (k + 1)).map strRow := by
  rw [← List.map_set, List.set_append_right _ _ (by rw [marks_length]; exact Nat.le_refl _), marks_length, Nat.sub_self, List.drop_eq_getElem_cons h, List.set_cons_zero, marks_succ, List.append_assoc]
  rfl
theorem marksAt {k0 n k : Nat} (h : k < n) : ((marks k0 n).map strRow)[k]? = some (strRow (mkT (k0 + k))) := by
  rw [List.getElem?_map, marks_get h]; rfl

noncomputable def eqb {α : Type} (a b : α) : Bool := @decide (a = b) (Classical.propDecidable _)
theorem eqb_t {α : Type} {a b : α} (h : a = b) : eqb a b = true := by unfold eqb; simp [h]
theorem eqb_f {α : Type} {a b : α} (h : a ≠ b) : eqb a b = false := by unfold eqb; simp [h]
theorem eqb_iff {α : Type} {a b : α} : eqb a b = true ↔ a = b := by unfold eqb; simp
theorem page_ext {p q : Page} (h1 : p.lsn = q.lsn) (h2 : p.slots = q.slots) : p = q := by cases p; cases q; simp_all
theorem pageOK_f1 {p : Page} (h : (bif false then !inR p.lsn 0 1000 && !decide (((p.slots.map strRow).length : Int) = 4) else !inR p.lsn 0 1000 || !decide (((p.slots.map strRow).length : Int) = 4)) = true) : pageOK p = false := by
  simp only [cond_false, Bool.or_eq_true, strs_len] at h
  unfold pageOK
  rcases h with h | h
  · rw [bT h]; rfl
  · rw [decide_eq_false (by have := nT h; omega)]; simp
theorem pageOK_impl {p : Page} : (bif true then (bif true then inR p.lsn 0 1000 && decide ((p.slots.length : Int) = 4) else inR p.lsn 0 1000 || decide ((p.slots.length : Int) = 4)) && !p.slots.any (fun s => decide ((30 : Int) < (s.length : Int)))
    else (bif true then inR p.lsn 0 1000 && decide ((p.slots.length : Int) = 4) else inR p.lsn 0 1000 || decide ((p.slots.length : Int) = 4)) || !p.slots.any (fun s => decide ((30 : Int) < (s.length : Int)))) = pageOK p := by
  simp only [cond_true, pageOK]
  have e1 : decide ((p.slots.length : Int) = 4) = decide (p.slots.length = 4) := decide_iff (by omega)
  have e2 : (fun s : Str => decide ((30 : Int) < (s.length : Int))) = fun s => decide (30 < s.length) := by funext s; exact decide_iff (by omega)
  rw [e1, e2]

theorem inR_nat {n lo hi : Int} (h : inR n lo hi = true) (h0 : 0 ≤ lo) : ∃ k : Nat, n = k ∧ (k : Int) ≤ hi := by
  unfold inR at h
  rw [Bool.and_eq_true] at h
  have h1 := dT h.1
  have h2 := dT h.2
  exact ⟨n.toNat, by omega, by omega⟩
theorem pageOK_len {p : Page} (h : pageOK p = true) : p.slots.length = 4 := by
  unfold pageOK at h
  simp only [Bool.and_eq_true] at h
  exact dT h.1.2
theorem pageInsert_set {p : Page} {data : Str} (h0 : ¬ (65536 : Int) < (data.length : Int)) (h1 : pageOK p = true) (h2 : inR data.length 1 30 = true) (h3 : ¬ idxOf (fun s => decide (s = [])) p.slots 0 < 0) :
    ∃ k : Nat, idxOf (fun s => decide (s = [])) p.slots 0 = (k : Int) ∧ k < p.slots.length ∧ pageInsert p data = (⟨p.lsn, p.slots.set k data⟩, (k : Int), 0) := by
  have h4 := idxOf_lt (p := fun s : Str => decide (s = [])) (xs := p.slots) (k := 0)
  generalize hg : idxOf (fun s : Str => decide (s = [])) p.slots 0 = g at *
  refine ⟨g.toNat, by omega, by omega, ?_⟩
  unfold pageInsert
  rw [if_neg h0, if_neg (by rw [h1]; simp), if_neg (by rw [h2]; simp), hg]
  simp only [if_neg h3]
  rw [show ((g.toNat : Nat) : Int) = g from by omega]
theorem eqb_rfl {α : Type} (a : α) : eqb a a = true := eqb_t rfl
theorem noisl_rows {e : Nat} {xs : List Str} : ∀ e' ob, get [(e, OB.rows 1 (xs.map strRow))] e' = some ob → noIslO ob := by
  intro e' ob h
  rw [get_cons] at h
  split at h
  · cases h
    intro r hr x hx
    obtain ⟨s, _, rfl⟩ := List.mem_map.1 hr
    rw [strRow, List.mem_singleton] at hx
    subst hx; rfl
  · simp [get] at h
theorem noisl_nil : ∀ e ob, get ([] : List (Nat × OB)) e = some ob → noIslO ob := fun e ob h => by simp [get] at h
theorem pageSet_len {p : Page} {slot lsn : Int} {data : Str} : (pageSet p slot data lsn).1.slots.length ≤ p.slots.length := by
  unfold pageSet
  split
  · exact Nat.zero_le _
  · split
    · exact Nat.zero_le _
    · split
      · exact Nat.zero_le _
      · simp
theorem pageInsert_len {p : Page} {data : Str} : (pageInsert p data).1.slots.length ≤ p.slots.length := by
  unfold pageInsert
  split
  · exact Nat.zero_le _
  · split
    · exact Nat.zero_le _
    · split
      · exact Nat.zero_le _
      · dsimp only
        split
        · exact Nat.le_refl _
        · simp
theorem szF_len {left : Int} {n : Nat} (h : ¬ szF left n < 0) : (n : Int) ≤ left := by
  unfold szF at h
  split at h
  · assumption
  · omega
theorem pageSet_set {p : Page} {slot lsn : Int} {data : Str} (h0 : ¬ (65536 : Int) < (data.length : Int)) (h1 : pageOK p = true) (h2 : (!inR slot 0 3 || decide ((30 : Int) < (data.length : Int)) || !inR lsn 0 1000) = false) :
    pageSet p slot data lsn = (⟨lsn, p.slots.set slot.toNat data⟩, 0) ∧ ∃ k : Nat, slot = k ∧ k < p.slots.length := by
  refine ⟨by unfold pageSet; rw [if_neg h0, if_neg (by rw [h1]; simp), if_neg (by rw [h2]; simp)], ?_⟩
  have h3 : inR slot 0 3 = true := by
    cases h : inR slot 0 3 with
    | true => rfl
    | false => rw [h] at h2; simp at h2
  obtain ⟨k, h4, h5⟩ := inR_nat h3 (by omega)
  exact ⟨k, h4, by rw [pageOK_len h1]; omega⟩
end Go.AM

/- Readings of arguments: integers, strings, rows of strings, pages. -/
namespace Go.AM

section
variable {P : Program} {t e : TypeId} {ds : List D}
theorem hasC_int {k : IntKind} (h : P.underlying t = some (.int k)) (hc : HasC P t ds) : ∃ n, ds = [.int k n] ∧ (Lit.int k n).wf = true := by
  cases hc with
  | int n h' hw => rw [h] at h'; cases h'; exact ⟨n, rfl, hw⟩
  | bool b h' => rw [h] at h'; cases h'
  | str s h' hl => rw [h] at h'; cases h'
  | nilp h' => rw [h] at h'; cases h'
  | ptr h' hr => rw [h] at h'; cases h'
  | slice rows h' hl hr => rw [h] at h'; cases h'
  | struct h' hf => rw [h] at h'; cases h'
theorem hasC_bool (h : P.underlying t = some .bool) (hc : HasC P t ds) : ∃ b, ds = [.bool b] := by
  cases hc with
  | bool b h' => exact ⟨b, rfl⟩
  | int n h' hw => rw [h] at h'; cases h'
  | str s h' hl => rw [h] at h'; cases h'
  | nilp h' => rw [h] at h'; cases h'
  | ptr h' hr => rw [h] at h'; cases h'
  | slice rows h' hl hr => rw [h] at h'; cases h'
  | struct h' hf => rw [h] at h'; cases h'
theorem hasC_str (h : P.underlying t = some .string) (hc : HasC P t ds) : ∃ s : Str, ds = [.str s] ∧ s.length ≤ 9223372036854775807 := by
  cases hc with
  | str s h' hl => exact ⟨s, rfl, hl⟩
  | bool b h' => rw [h] at h'; cases h'
  | int n h' hw => rw [h] at h'; cases h'
  | nilp h' => rw [h] at h'; cases h'
  | ptr h' hr => rw [h] at h'; cases h'
  | slice rows h' hl hr => rw [h] at h'; cases h'
  | struct h' hf => rw [h] at h'; cases h'
theorem hasC_slice (h : P.underlying t = some (.slice e)) (hc : HasC P t ds) : ∃ rows, ds = [.sl (P.cellsOf e) rows] ∧ rows.length ≤ 9223372036854775807 ∧ HasRs P e rows := by
  cases hc with
  | slice rows h' hl hr => rw [h] at h'; cases h'; exact ⟨rows, rfl, hl, hr⟩
  | bool b h' => rw [h] at h'; cases h'
  | int n h' hw => rw [h] at h'; cases h'
  | str s h' hl => rw [h] at h'; cases h'
  | nilp h' => rw [h] at h'; cases h'
  | ptr h' hr => rw [h] at h'; cases h'
  | struct h' hf => rw [h] at h'; cases h'
theorem hasC_ptr (h : P.underlying t = some (.pointer e)) (hc : HasC P t ds) : ds = [.nilp] ∨ ∃ r, ds = [.ip r] ∧ HasC P e r := by
  cases hc with
  | nilp h' => exact .inl rfl
  | ptr h' hr => rw [h] at h'; cases h'; exact .inr ⟨_, rfl, hr⟩
  | slice rows h' hl hr => rw [h] at h'; cases h'
  | bool b h' => rw [h] at h'; cases h'
  | int n h' hw => rw [h] at h'; cases h'
  | str s h' hl => rw [h] at h'; cases h'
  | struct h' hf => rw [h] at h'; cases h'
theorem hasC_struct {fs : Array Field} (h : P.underlying t = some (.struct fs)) (hc : HasC P t ds) : HasFs P fs.toList ds := by
  cases hc with
  | struct h' hf => rw [h] at h'; cases h'; exact hf
  | nilp h' => rw [h] at h'; cases h'
  | ptr h' hr => rw [h] at h'; cases h'
  | slice rows h' hl hr => rw [h] at h'; cases h'
  | bool b h' => rw [h] at h'; cases h'
  | int n h' hw => rw [h] at h'; cases h'
  | str s h' hl => rw [h] at h'; cases h'
theorem hasFs_cons {f : Field} {fs : List Field} (h : HasFs P (f :: fs) ds) : ∃ a b, ds = a ++ b ∧ HasC P f.type a ∧ HasFs P fs b := by
  cases h with
  | cons h1 h2 => exact ⟨_, _, rfl, h1, h2⟩
theorem hasFs_nil (h : HasFs P [] ds) : ds = [] := by cases h; rfl
theorem hasRs_map {α : Type} {f : α → List D} {ok : α → Prop} (hf : ∀ ds, HasC P e ds → ∃ x, ds = f x ∧ ok x) : ∀ {rows : List (List D)}, HasRs P e rows → ∃ xs : List α, rows = xs.map f ∧ ∀ x ∈ xs, ok x
  | [], _ => ⟨[], rfl, fun x hx => by cases hx⟩
  | r :: rs, h => by
    cases h with
    | cons h1 h2 =>
      obtain ⟨x, rfl, h3⟩ := hf r h1
      obtain ⟨xs, rfl, h4⟩ := hasRs_map hf h2
      exact ⟨x :: xs, rfl, fun y hy => by
        rcases List.mem_cons.1 hy with rfl | hy
        · exact h3
        · exact h4 y hy⟩
theorem has_strs (h : P.underlying t = some (.slice e)) (he : P.underlying e = some .string) (hz : P.cellsOf e = 1) (hc : HasC P t ds) : ∃ xs : List Str, ds = [strs xs] ∧ wfStrs xs := by
  obtain ⟨rows, rfl, h1, h2⟩ := hasC_slice h hc
  obtain ⟨xs, rfl, h3⟩ := hasRs_map (f := strRow) (ok := fun s : Str => s.length ≤ 9223372036854775807) (fun ds hd => by
    obtain ⟨s, rfl, h4⟩ := hasC_str he hd
    exact ⟨s, rfl, h4⟩) h2
  exact ⟨xs, by rw [hz]; rfl, by simpa using h1, h3⟩
theorem has_page {fs : Array Field} {f0 f1 : Field} (h : P.underlying t = some (.struct fs)) (hfs : fs.toList = [f0, f1]) (h0 : P.underlying f0.type = some (.int .i64)) (h1 : P.underlying f1.type = some (.slice e)) (he : P.underlying e = some .string)
    (hz : P.cellsOf e = 1) (hc : HasC P t ds) : ∃ p : Page, ds = [.int .i64 p.lsn, strs p.slots] ∧ wfStrs p.slots := by
  have h2 := hasC_struct h hc
  rw [hfs] at h2
  obtain ⟨a, b, rfl, h3, h4⟩ := hasFs_cons h2
  obtain ⟨a', b', rfl, h5, h6⟩ := hasFs_cons h4
  obtain ⟨n, rfl, _⟩ := hasC_int h0 h3
  obtain ⟨xs, rfl, hw⟩ := has_strs h1 he hz h5
  have := hasFs_nil h6
  subst this
  exact ⟨⟨n, xs⟩, rfl, hw⟩
end
end Go.AM

/- Plain laws for walks: conditions, lengths, sizes, marks. -/
namespace Go.AM
theorem and_T {a b : Bool} (h : (a && b) = true) : a = true ∧ b = true := by simpa using h
theorem and_F {a b : Bool} (h : (a && b) = false) : a = false ∨ b = false := by cases a <;> cases b <;> simp_all
theorem mem1 {p : Nat → Prop} {n : Nat} (h : p n) : ∀ e ∈ [n], p e := fun e he => by
  rw [List.mem_singleton] at he; subst he; exact h
theorem mem2 {p : Nat → Prop} {n m : Nat} (h : p n) (h2 : p m) : ∀ e ∈ [n, m], p e := fun e he => by
  rcases List.mem_cons.1 he with rfl | he
  · exact h
  · exact mem1 h2 e he
theorem mem3 {p : Nat → Prop} {n m k : Nat} (h : p n) (h2 : p m) (h3 : p k) : ∀ e ∈ [n, m, k], p e := fun e he => by
  rcases List.mem_cons.1 he with rfl | he
  · exact h
  · exact mem2 h2 h3 e he
theorem mem4 {p : Nat → Prop} {n m k l : Nat} (h : p n) (h2 : p m) (h3 : p k) (h4 : p l) : ∀ e ∈ [n, m, k, l], p e := fun e he => by
  rcases List.mem_cons.1 he with rfl | he
  · exact h
  · exact mem3 h2 h3 h4 e he
section
variable {C : Cx} {q : Bool} {gs : List Gd} {K : St → Prop}
theorem ax_and {d j c : Nat} {t y : Bool} {grp : List XI} {s : XA} {its : List XI} {sl : List (Nat × AV)} {own : List (Nat × OB)}
    (hc : get sl c = some (.d (.bool t))) (hfr : frS (dstsL grp) sl = true)
    (hgrp : t = true → AXI C q (⟨j, true, c⟩ :: gs) grp ⟨sl, own⟩ (fun st' => evA st'.sl s = some (.d (.bool y)) ∧ St.le ⟨sl, own⟩ st'))
    (h : AXI C q gs its ⟨(d, .d (.bool (t && y))) :: sl, own⟩ K) : AXI C q gs (.andor d true j c grp s :: its) ⟨sl, own⟩ K := ax_andor hc hfr hgrp h
theorem ax_or {d j c : Nat} {t y : Bool} {grp : List XI} {s : XA} {its : List XI} {sl : List (Nat × AV)} {own : List (Nat × OB)}
    (hc : get sl c = some (.d (.bool t))) (hfr : frS (dstsL grp) sl = true)
    (hgrp : t = false → AXI C q (⟨j, false, c⟩ :: gs) grp ⟨sl, own⟩ (fun st' => evA st'.sl s = some (.d (.bool y)) ∧ St.le ⟨sl, own⟩ st'))
    (h : AXI C q gs its ⟨(d, .d (.bool (t || y))) :: sl, own⟩ K) : AXI C q gs (.andor d false j c grp s :: its) ⟨sl, own⟩ K := ax_andor hc hfr hgrp h
end
theorem bneT {a b : Bool} (h : (a != b) = true) : a ≠ b := by simpa using h
theorem bneF {a b : Bool} (h : (a != b) = false) : a = b := by simpa using h
theorem beqT {a b : Bool} (h : (a == b) = true) : a = b := by simpa using h
theorem beqF {a b : Bool} (h : (a == b) = false) : a ≠ b := by simpa using h
theorem or_T {a b : Bool} (h : (a || b) = true) : a = true ∨ b = true := by simpa using h
theorem or_F {a b : Bool} (h : (a || b) = false) : a = false ∧ b = false := by simpa using h
theorem q_lenS_map {C : Cx} {st : St} {x : XA} {sz : Nat} {α : Type} {f : α → List D} {xs : List α} (hx : evA st.sl x = some (.d (.sl sz (xs.map f)))) : QStep C st (.lenS x) (int xs.length) :=
  q_as (q_lenS hx) (by rw [List.length_map])
theorem noisl_map {α : Type} {f : α → List D} {sz : Nat} {xs : List α} (hf : ∀ x, (f x).all scD = true) : noIslO (.rows sz (xs.map f)) := by
  intro r hr x hx
  obtain ⟨y, _, rfl⟩ := List.mem_map.1 hr
  exact List.all_eq_true.1 (hf y) x hx
def noislL : List (Nat × OB) → Prop
  | [] => True
  | (_, ob) :: r => noIslO ob ∧ noislL r
theorem noisl_of : ∀ {h : List (Nat × OB)}, noislL h → ∀ e ob, get h e = some ob → noIslO ob
  | (k, o) :: r, hh, e, ob, h => by
    rw [get_cons] at h
    split at h
    · cases h; exact hh.1
    · exact noisl_of hh.2 e ob h

def intRow (n : Int) : List D := [.int .i64 n]
def boolRow (b : Bool) : List D := [.bool b]
def wfInt (n : Int) : Prop := -9223372036854775808 ≤ n ∧ n ≤ 9223372036854775807
def wfStr (s : Str) : Prop := s.length ≤ 9223372036854775807
def wfL {α : Type} (wf : α → Prop) (xs : List α) : Prop := xs.length ≤ 9223372036854775807 ∧ ∀ x ∈ xs, wf x

/-! Sizes. -/
theorem szF_spec (l : Int) (n : Nat) : ((n : Int) ≤ l ∧ szF l n = l - n) ∨ (l < (n : Int) ∧ szF l n = -1) := by
  unfold szF
  split
  · exact .inl ⟨by assumption, rfl⟩
  · exact .inr ⟨by omega, rfl⟩
def sumBy {α : Type} (f : α → Nat) : List α → Nat
  | [] => 0
  | x :: r => f x + sumBy f r
def szL {α : Type} (f : α → Nat) (xs : List α) : Nat := xs.length + sumBy f xs
theorem sumBy_append {α : Type} {f : α → Nat} : ∀ (a b : List α), sumBy f (a ++ b) = sumBy f a + sumBy f b
  | [], b => by simp [sumBy]
  | x :: a, b => by rw [List.cons_append, sumBy, sumBy, sumBy_append a b]; omega
theorem sumBy_take {α : Type} {f : α → Nat} {xs : List α} {k : Nat} (h : k < xs.length) : sumBy f (xs.take (k + 1)) = sumBy f (xs.take k) + f xs[k] := by
  rw [take_succ h, sumBy_append]; simp [sumBy]
theorem sumBy_le {α : Type} {f : α → Nat} (xs : List α) (k : Nat) : sumBy f (xs.take k) ≤ sumBy f xs := by
  conv => rhs; rw [← List.take_append_drop k xs]
  rw [sumBy_append]; omega
theorem sumBy_zero {α : Type} : ∀ (xs : List α), sumBy (fun _ => 0) xs = 0
  | [] => rfl
  | x :: xs => by rw [sumBy, sumBy_zero xs]
theorem szL_len {α : Type} {f : α → Nat} {xs : List α} : xs.length ≤ szL f xs := by unfold szL; omega

/-! Marks. -/
def markL {α : Type} (mk : Nat → α → α) (c : Nat) : Nat → List α → List α
  | _, [] => []
  | k, x :: xs => mk k x :: markL mk c (k + c) xs
theorem markL_len {α : Type} {mk : Nat → α → α} {c : Nat} : ∀ {k : Nat} {xs : List α}, (markL mk c k xs).length = xs.length
  | _, [] => rfl
  | k, x :: xs => by rw [markL, List.length_cons, markL_len, List.length_cons]
theorem markL_get {α : Type} {mk : Nat → α → α} {c : Nat} : ∀ {k : Nat} {xs : List α} {i : Nat} (h : i < xs.length), (markL mk c k xs)[i]? = some (mk (k + c * i) xs[i])
  | k, x :: xs, 0, h => by simp [markL]
  | k, x :: xs, i + 1, h => by
    rw [markL, List.getElem?_cons_succ, markL_get (by simpa using h)]
    simp only [List.getElem_cons_succ, Option.some.injEq]
    rw [Nat.mul_succ]; congr 1; omega
theorem markL_app {α : Type} {mk : Nat → α → α} {c : Nat} : ∀ {k : Nat} {xs ys : List α}, markL mk c k (xs ++ ys) = markL mk c k xs ++ markL mk c (k + c * xs.length) ys
  | k, [], ys => by simp [markL]
  | k, x :: xs, ys => by
    rw [List.cons_append, markL, markL, markL_app, List.cons_append, List.length_cons]
    congr 2
    rw [Nat.mul_succ]; congr 1; omega
section
variable {α : Type} {row : α → List D} {mk : Nat → α → α} {c k0 k : Nat} {xs : List α}
theorem markL_at (h : k < xs.length) : ((markL mk c k0 (xs.take k) ++ xs.drop k).map row)[k]? = some (row xs[k]) := by
  rw [List.getElem?_map, List.getElem?_append_right (by rw [markL_len]; simp; omega), markL_len]
  simp [List.length_take, Nat.min_eq_left (Nat.le_of_lt h), h]
theorem markL_set (h : k < xs.length) : ((markL mk c k0 (xs.take k) ++ xs.drop k).map row).set k (row (mk (k0 + c * k) xs[k])) = (markL mk c k0 (xs.take (k + 1)) ++ xs.drop (k + 1)).map row := by
  have hl : (markL mk c k0 (xs.take k)).length = k := by rw [markL_len, List.length_take]; omega
  rw [← List.map_set, List.set_append_right _ _ (by rw [hl]; exact Nat.le_refl _), hl, Nat.sub_self, List.drop_eq_getElem_cons h, List.set_cons_zero, take_succ h, markL_app, List.append_assoc, List.length_take, Nat.min_eq_left (Nat.le_of_lt h)]
  rfl
theorem markL_full : markL mk c k0 (xs.take xs.length) ++ xs.drop xs.length = markL mk c k0 xs := by
  rw [List.take_length, List.drop_length, List.append_nil]
theorem setAt {q : List D} {rs : List (List D)} (h : k < rs.length) : (rs.set k q)[k]? = some q := by simp [h]
theorem markL_mlen : ((markL mk c k0 (xs.take k) ++ xs.drop k).map row).length = xs.length := by
  rw [List.length_map, List.length_append, markL_len, List.length_take, List.length_drop]; omega
theorem heldAt (h : k < xs.length) : ((markL mk c k0 xs).map row)[k]? = some (row (mk (k0 + c * k) xs[k])) := by
  rw [List.getElem?_map, markL_get h]; rfl
end
theorem set_set' {α : Type} {l : List α} {k : Nat} {a b : α} {l' : List α} (h : l.set k b = l') : (l.set k a).set k b = l' := by rw [List.set_set]; exact h

/-! Rows that are filled. -/
section
variable {α : Type} {row : α → List D} {xs : List α} {k : Nat} {z : List D}
theorem fillAtL (h : k < xs.length) : ((xs.take k).map row ++ List.replicate (xs.length - k) z)[k]? = some z := by
  have hl : ((xs.take k).map row).length = k := by simp; omega
  rw [List.getElem?_append_right (by omega), hl, Nat.sub_self, List.getElem?_replicate, if_pos (by omega)]
theorem fillSetL (h : k < xs.length) : ((xs.take k).map row ++ List.replicate (xs.length - k) z).set k (row xs[k]) = (xs.take (k + 1)).map row ++ List.replicate (xs.length - (k + 1)) z := by
  have hl : ((xs.take k).map row).length = k := by simp; omega
  rw [List.set_append_right _ _ (by omega), hl, Nat.sub_self, show xs.length - k = (xs.length - (k + 1)) + 1 from by omega, List.replicate_succ, List.set_cons_zero, take_succ h, List.map_append, List.append_assoc]
  rfl
end
theorem wk_zz {C : Cx} {sl : List (Nat × AV)} {own : List (Nat × OB)} (t b : Nat) {a : Nat} (h : get sl t = some (.zs a)) : Wk C ⟨sl, own⟩ ⟨(t, .zs b) :: sl, own⟩ :=
  fun _ _ ⟨β, S⟩ => ⟨β, S.slot h (fun v hv => by rw [AR] at hv ⊢; exact hv)⟩
theorem flat_succ {α : Type} {zs : List (List α)} {k : Nat} (h : k < zs.length) : (zs.take (k + 1)).flatten = (zs.take k).flatten ++ zs[k] := by
  rw [take_succ h, List.flatten_append]; simp
theorem flat_le {α : Type} {zs : List (List α)} (k : Nat) : (zs.take k).flatten.length ≤ zs.flatten.length := by
  have : zs.flatten = (zs.take k).flatten ++ (zs.drop k).flatten := by rw [← List.flatten_append, List.take_append_drop]
  rw [this]; simp
theorem eqb_dec {α : Type} [DecidableEq α] (a b : α) : decide (a = b) = eqb a b := by
  by_cases h : a = b
  · rw [decide_eq_true h, eqb_t h]
  · rw [decide_eq_false h, eqb_f h]
theorem eqbL_step {α : Type} {xs ys : List α} {k : Nat} (hx : k < xs.length) (hy : k < ys.length) (h : xs.take k = ys.take k) (he : eqb xs[k] ys[k] = true) : xs.take (k + 1) = ys.take (k + 1) :=
  take_step hx hy h (eqb_iff.1 he)
theorem eqbL_no {α : Type} {xs ys : List α} {k : Nat} (hx : k < xs.length) (hy : k < ys.length) (he : eqb xs[k] ys[k] = false) : eqb xs ys = false := by
  refine eqb_f fun h => ?_
  subst h
  rw [eqb_rfl] at he; cases he
theorem bif_not (n : Bool) (b : Bool) : (bif n then !b else b) = (bif n then !b else b) := rfl
end Go.AM
namespace Go.AM
mutual
theorem plain_ref : ∀ (x : AV), plain x = true → refsIn [] x = true
  | .d _, _ => rfl
  | .zs _, _ => rfl
  | .raw _, _ => rfl
  | .agg cs, h => by rw [plain] at h; rw [refsIn]; exact plain_refs cs h
  | .fn _ cs, h => by rw [plain] at h; rw [refsIn]; exact plain_refs cs h
  | .ptr _ _, h => by simp [plain] at h
  | .rptr _ _ _ _, h => by simp [plain] at h
  | .osl _ _ _ _, h => by simp [plain] at h
  | .oslc _ _ _ _ _, h => by simp [plain] at h
  | .tup _, h => by simp [plain] at h
  | .dead, h => by simp [plain] at h
theorem plain_refs : ∀ (xs : List AV), plainL xs = true → refsInL [] xs = true
  | [], _ => rfl
  | x :: xs, h => by
    rw [plainL, Bool.and_eq_true] at h
    rw [refsInL, Bool.and_eq_true]
    exact ⟨plain_ref x h.1, plain_refs xs h.2⟩
end
theorem refs_map : ∀ (ds : List D), refsInL [] (ds.map AV.d) = true
  | [] => rfl
  | d :: ds => by rw [List.map_cons, refsInL, refs_map ds]; rfl
theorem refs_cons {x : AV} (h : refsIn [] x = true) (ds : List D) : refsInL [] (x :: ds.map AV.d) = true := by rw [refsInL, h, refs_map]; rfl
/-- A function value among the data is called. -/
theorem ax_callvD {C : Cx} {gs : List Gd} {K : St → Prop} {st : St} {d : Option Nat} {x : XA} {f : Nat} {args : List XA} {its : List XI} {vs : List AV} {ds : List D} (hx : evA st.sl x = some (.d (.fn (.func f) ds))) (hb : hasBody C.P f = true) (ha : evL st.sl args = some vs)
    (h : VCall C st f (vs ++ ds.map AV.d) (fun r st' => AXI C false gs its (putR d r st') K)) : AXI C false gs (.callv d x args :: its) st K := by
  refine ax_callv_gen (hv := fun {β w u} hA => ?_) hx hb ha h
  rw [AR, DR] at hA
  obtain ⟨us, h1, h2⟩ := hA
  exact ⟨us, h1, DL_AL h2⟩

theorem hbnd {len n bytes : Nat} (h1 : len ≤ 2097152) (h2 : n ≤ 2097152) (hb : bytes ≤ 1024) : (2 * (len + n) + 256) * bytes ≤ 2 ^ 48 := by
  have h3 : (2 * (len + n) + 256) * bytes ≤ (2 * (2097152 + 2097152) + 256) * 1024 := Nat.mul_le_mul (by omega) hb
  omega
theorem app1 {α : Type} {row : α → List D} {xs : List α} {y : α} {r : List D} (h : r = row y) : (xs.map row).take xs.length ++ ([r].drop 0).take 1 = (xs ++ [y]).map row := by
  subst h; simp [List.take_of_length_le]
/-! Rows that are struck. -/
section
variable {α : Type} {q : α → Bool}
theorem idxOf_some {p : α → Bool} {xs : List α} (h : idxOf p xs 0 ≠ -1) : ∃ i : Nat, idxOf p xs 0 = (i : Int) ∧ ∃ hi : i < xs.length, p xs[i] = true ∧ (∀ j, j < i → ∀ x, xs[j]? = some x → p x = false) := by
  have key : ∀ (xs : List α) (k : Nat), idxOf p xs k = -1 ∨ ∃ i : Nat, idxOf p xs k = ((k + i : Nat) : Int) ∧ ∃ hi : i < xs.length, p xs[i] = true ∧ (∀ j, j < i → ∀ x, xs[j]? = some x → p x = false) := by
    intro xs
    induction xs with
    | nil => intro k; exact .inl rfl
    | cons x xs ih =>
      intro k
      rw [idxOf]
      cases hp : p x with
      | true => exact .inr ⟨0, by simp, by simp, hp, fun j hj => by omega⟩
      | false =>
        rw [if_neg (by simp)]
        rcases ih (k + 1) with h | ⟨i, h1, h2, h3, h4⟩
        · exact .inl h
        · refine .inr ⟨i + 1, by rw [h1]; congr 1; omega, by simpa using h2, by simpa using h3, fun j hj y hy => ?_⟩
          cases j with
          | zero => simp at hy; subst hy; exact hp
          | succ j => exact h4 j (by omega) y (by simpa using hy)
  rcases key xs 0 with h1 | ⟨i, h1, h2⟩
  · exact absurd h1 h
  · exact ⟨i, by rw [h1, Nat.zero_add], h2⟩
theorem idxOf_neg {p : α → Bool} : ∀ {xs : List α} {k : Nat}, idxOf p xs k = -1 → ∀ x ∈ xs, p x = false
  | x :: xs, k, h, y, hy => by
    rw [idxOf] at h
    cases hp : p x with
    | true => rw [hp, if_pos rfl] at h; omega
    | false =>
      rw [hp, if_neg (by simp)] at h
      rcases List.mem_cons.1 hy with rfl | hy
      · exact hp
      · exact idxOf_neg h y hy
theorem filter_all {p : α → Bool} {xs : List α} (h : ∀ x ∈ xs, p x = false) : xs.filter (fun x => !p x) = xs :=
  List.filter_eq_self.2 (fun x hx => by rw [h x hx]; rfl)
/-- As it stands while rows are struck: what is kept, what is left over, what comes. -/
def strk (p : α → Bool) (xs : List α) (j : Nat) (mid : List α) : List α := (xs.take j).filter (fun x => !p x) ++ mid ++ xs.drop j
theorem strk_len {p : α → Bool} {xs : List α} {j : Nat} {mid : List α} (h : ((xs.take j).filter (fun x => !p x)).length + mid.length = j) (hj : j ≤ xs.length) : (strk p xs j mid).length = xs.length := by
  unfold strk; simp only [List.length_append, List.length_drop]; omega
theorem strk_at {p : α → Bool} {xs : List α} {j : Nat} {mid : List α} (h : ((xs.take j).filter (fun x => !p x)).length + mid.length = j) (hj : j < xs.length) : (strk p xs j mid)[j]? = some xs[j] := by
  unfold strk
  rw [List.getElem?_append_right (by simp only [List.length_append]; omega)]
  simp only [List.length_append]
  rw [h, Nat.sub_self]
  simp [hj]
theorem take_filter_keep {p : α → Bool} {xs : List α} {j : Nat} (hj : j < xs.length) (hp : p xs[j] = false) : (xs.take (j + 1)).filter (fun x => !p x) = (xs.take j).filter (fun x => !p x) ++ [xs[j]] := by
  rw [take_succ hj, List.filter_append]; simp [hp]
theorem take_filter_drop {p : α → Bool} {xs : List α} {j : Nat} (hj : j < xs.length) (hp : p xs[j] = true) : (xs.take (j + 1)).filter (fun x => !p x) = (xs.take j).filter (fun x => !p x) := by
  rw [take_succ hj, List.filter_append]; simp [hp]
theorem strk_drop {p : α → Bool} {xs : List α} {j : Nat} {mid : List α} (hj : j < xs.length) (hp : p xs[j] = true) : strk p xs j mid = strk p xs (j + 1) (mid ++ [xs[j]]) := by
  unfold strk
  rw [take_filter_drop hj hp, List.drop_eq_getElem_cons hj]; simp
theorem strk_set {p : α → Bool} {row : α → List D} {xs : List α} {j : Nat} {m : α} {mid : List α} (hj : j < xs.length) (hp : p xs[j] = false) {i : Nat} (hi : i = ((xs.take j).filter (fun x => !p x)).length) :
    ((strk p xs j (m :: mid)).map row).set i (row xs[j]) = (strk p xs (j + 1) (mid ++ [xs[j]])).map row := by
  unfold strk
  rw [take_filter_keep hj hp, ← List.map_set, List.append_assoc, List.set_append_right _ _ (by omega), hi, Nat.sub_self, List.cons_append, List.set_cons_zero, List.drop_eq_getElem_cons hj]
  simp
theorem oslE {e sz s s' l l' : Nat} (hs : s = s') (hl : l = l') : AV.osl e sz s l = .osl e sz s' l' := by rw [hs, hl]
theorem strk_end {p : α → Bool} {row : α → List D} {xs : List α} {mid : List α} {z : List (List D)} {o : Nat} :
    ∃ more, ((strk p xs xs.length mid).map row).take (xs.filter (fun x => !p x)).length ++ z ++ ((strk p xs xs.length mid).map row).drop o = (xs.filter (fun x => !p x)).map row ++ more := by
  refine ⟨z ++ ((strk p xs xs.length mid).map row).drop o, ?_⟩
  have : ((strk p xs xs.length mid).map row).take (xs.filter (fun x => !p x)).length = (xs.filter (fun x => !p x)).map row := by
    unfold strk
    rw [List.take_length, List.append_assoc, List.map_append, List.take_left' (by simp)]
  rw [this, List.append_assoc]
theorem strk_first {p : α → Bool} {xs : List α} {i : Nat} (hi : i < xs.length) (hp : p xs[i] = true) (hb : ∀ j, j < i → ∀ x, xs[j]? = some x → p x = false) : strk p xs (i + 1) [xs[i]] = xs ∧ (xs.take (i + 1)).filter (fun x => !p x) = xs.take i := by
  have h1 : (xs.take i).filter (fun x => !p x) = xs.take i := filter_all (fun x hx => by
    obtain ⟨j, h2, rfl⟩ := List.mem_iff_getElem.1 hx
    have h3 : j < i := by simp at h2; omega
    exact hb j h3 _ (by rw [List.getElem_take]; exact List.getElem?_eq_getElem (by omega)))
  have h2 := take_filter_drop hi hp
  rw [h1] at h2
  refine ⟨?_, h2⟩
  unfold strk
  rw [h2, List.append_assoc, List.singleton_append, ← List.drop_eq_getElem_cons hi, List.take_append_drop]
end
end Go.AM
namespace Go.AM
/-! Readings: what data of a type is. -/
section
variable {P : Program} {t e : TypeId}
def Dec {α : Type} (P : Program) (t : TypeId) (row : α → List D) (wf : α → Prop) : Prop := ∀ {ds : List D}, HasC P t ds → ∃ x, ds = row x ∧ wf x
theorem dec_int (h : P.underlying t = some (.int .i64)) : Dec P t intRow wfInt := fun hc => by
  obtain ⟨n, rfl, hw⟩ := hasC_int h hc
  refine ⟨n, rfl, ?_⟩
  simp [Lit.wf, IntKind.min, IntKind.max, IntKind.signed, IntKind.bits] at hw
  unfold wfInt; omega
theorem dec_byte (h : P.underlying t = some (.int .u8)) : Dec P t byteRow (fun _ => True) := fun hc => by
  obtain ⟨n, rfl, hw⟩ := hasC_int h hc
  simp [Lit.wf, IntKind.min, IntKind.max, IntKind.signed, IntKind.bits] at hw
  refine ⟨byteOf n, ?_, trivial⟩
  unfold byteRow
  rw [byteOf_nat]
  congr 2; omega
theorem dec_bool (h : P.underlying t = some .bool) : Dec P t boolRow (fun _ => True) := fun hc => by
  obtain ⟨n, rfl⟩ := hasC_bool h hc
  exact ⟨n, rfl, trivial⟩
theorem dec_str (h : P.underlying t = some .string) : Dec P t strRow wfStr := fun hc => by
  obtain ⟨n, rfl, hw⟩ := hasC_str h hc
  exact ⟨n, rfl, hw⟩
theorem dec_slice {α : Type} {row : α → List D} {wf : α → Prop} {sz : Nat} (h : P.underlying t = some (.slice e)) (hz : P.cellsOf e = sz) (he : Dec P e row wf) : Dec P t (fun xs => [.sl sz (xs.map row)]) (wfL wf) := fun hc => by
  obtain ⟨rows, rfl, h1, h2⟩ := hasC_slice h hc
  obtain ⟨xs, rfl, h3⟩ := hasRs_map (f := row) (ok := wf) (fun ds hd => he hd) h2
  exact ⟨xs, by rw [hz], by simpa using h1, h3⟩
end
end Go.AM

/- Plain data of the program: its structs. -/
namespace Go.AM
set_option linter.unusedVariables false
structure GLock where
  Tx : Int
  Table : Int
  Row : Int
  Mode : Int
def GLock.av (x : GLock) : AV := .agg [.d (.int .i64 x.Tx), .d (.int .i64 x.Table), .d (.int .i64 x.Row), .d (.int .i64 x.Mode)]
theorem GLock.ext1 {a b : GLock} (h0 : a.Tx = b.Tx) (h1 : a.Table = b.Table) (h2 : a.Row = b.Row) (h3 : a.Mode = b.Mode) : a = b := by cases a; cases b; simp_all
def GLock.row (x : GLock) : List D := [.int .i64 x.Tx, .int .i64 x.Table, .int .i64 x.Row, .int .i64 x.Mode]
def GLock.wf (x : GLock) : Prop := wfInt x.Tx ∧ wfInt x.Table ∧ wfInt x.Row ∧ wfInt x.Mode
def GLock.zero : GLock := ⟨0, 0, 0, 0⟩
theorem GLock.dec {P : Program} {t : TypeId} {fs : Array Field} {f0 f1 f2 f3 : Field} (h : P.underlying t = some (.struct fs)) (hfs : fs.toList = [f0, f1, f2, f3]) (d0 : Dec P f0.type intRow wfInt) (d1 : Dec P f1.type intRow wfInt) (d2 : Dec P f2.type intRow wfInt) (d3 : Dec P f3.type intRow wfInt) : Dec P t GLock.row GLock.wf := fun hc => by
  have g := hasC_struct h hc
  rw [hfs] at g
  obtain ⟨a0, b0, e0, c0, g⟩ := hasFs_cons g
  obtain ⟨x0, r0, w0⟩ := d0 c0
  obtain ⟨a1, b1, e1, c1, g⟩ := hasFs_cons g
  obtain ⟨x1, r1, w1⟩ := d1 c1
  obtain ⟨a2, b2, e2, c2, g⟩ := hasFs_cons g
  obtain ⟨x2, r2, w2⟩ := d2 c2
  obtain ⟨a3, b3, e3, c3, g⟩ := hasFs_cons g
  obtain ⟨x3, r3, w3⟩ := d3 c3
  have z := hasFs_nil g
  exact ⟨⟨x0, x1, x2, x3⟩, by rw [e0, r0, e1, r1, e2, r2, e3, r3, z]; rfl, ⟨w0, w1, w2, w3⟩⟩
def GLock.mk1 (k : Nat) (x : GLock) : GLock := ⟨((k : Nat) : Int), ((k + 1 : Nat) : Int), ((k + 2 : Nat) : Int), ((k + 3 : Nat) : Int)⟩
theorem GLock.eq_iff {a b : GLock} : a = b ↔ (a.Tx = b.Tx ∧ a.Table = b.Table ∧ a.Row = b.Row ∧ a.Mode = b.Mode) := by
  constructor
  · rintro rfl; exact ⟨rfl, rfl, rfl, rfl⟩
  · intro h; cases a; cases b; simp_all
theorem GLock.q_eqs {C : Cx} {st : St} {neg : Bool} {x y : XA} {a b : GLock} (hx : evA st.sl x = some a.av) (hy : evA st.sl y = some b.av) : QStep C st (.eqs neg [0, 0, 0, 0] x y) (bool (bif neg then !eqb a b else eqb a b)) := by
  refine q_as (Go.AM.q_eqs hx hy rfl) ?_
  have e : (decide (a.Tx = b.Tx) && (decide (a.Table = b.Table) && (decide (a.Row = b.Row) && (decide (a.Mode = b.Mode) && true)))) = eqb a b := by
    rw [Bool.eq_iff_iff, eqb_iff, GLock.eq_iff]; simp [Bool.and_eq_true]
  show bool (bif neg then !(decide (a.Tx = b.Tx) && (decide (a.Table = b.Table) && (decide (a.Row = b.Row) && (decide (a.Mode = b.Mode) && true)))) else (decide (a.Tx = b.Tx) && (decide (a.Table = b.Table) && (decide (a.Row = b.Row) && (decide (a.Mode = b.Mode) && true))))) = _
  rw [e]

structure GWait where
  Tx : Int
  For : Int
def GWait.av (x : GWait) : AV := .agg [.d (.int .i64 x.Tx), .d (.int .i64 x.For)]
theorem GWait.ext1 {a b : GWait} (h0 : a.Tx = b.Tx) (h1 : a.For = b.For) : a = b := by cases a; cases b; simp_all
def GWait.row (x : GWait) : List D := [.int .i64 x.Tx, .int .i64 x.For]
def GWait.wf (x : GWait) : Prop := wfInt x.Tx ∧ wfInt x.For
def GWait.zero : GWait := ⟨0, 0⟩
theorem GWait.dec {P : Program} {t : TypeId} {fs : Array Field} {f0 f1 : Field} (h : P.underlying t = some (.struct fs)) (hfs : fs.toList = [f0, f1]) (d0 : Dec P f0.type intRow wfInt) (d1 : Dec P f1.type intRow wfInt) : Dec P t GWait.row GWait.wf := fun hc => by
  have g := hasC_struct h hc
  rw [hfs] at g
  obtain ⟨a0, b0, e0, c0, g⟩ := hasFs_cons g
  obtain ⟨x0, r0, w0⟩ := d0 c0
  obtain ⟨a1, b1, e1, c1, g⟩ := hasFs_cons g
  obtain ⟨x1, r1, w1⟩ := d1 c1
  have z := hasFs_nil g
  exact ⟨⟨x0, x1⟩, by rw [e0, r0, e1, r1, z]; rfl, ⟨w0, w1⟩⟩
def GWait.mk1 (k : Nat) (x : GWait) : GWait := ⟨((k : Nat) : Int), ((k + 1 : Nat) : Int)⟩
theorem GWait.eq_iff {a b : GWait} : a = b ↔ (a.Tx = b.Tx ∧ a.For = b.For) := by
  constructor
  · rintro rfl; exact ⟨rfl, rfl⟩
  · intro h; cases a; cases b; simp_all
theorem GWait.q_eqs {C : Cx} {st : St} {neg : Bool} {x y : XA} {a b : GWait} (hx : evA st.sl x = some a.av) (hy : evA st.sl y = some b.av) : QStep C st (.eqs neg [0, 0] x y) (bool (bif neg then !eqb a b else eqb a b)) := by
  refine q_as (Go.AM.q_eqs hx hy rfl) ?_
  have e : (decide (a.Tx = b.Tx) && (decide (a.For = b.For) && true)) = eqb a b := by
    rw [Bool.eq_iff_iff, eqb_iff, GWait.eq_iff]; simp [Bool.and_eq_true]
  show bool (bif neg then !(decide (a.Tx = b.Tx) && (decide (a.For = b.For) && true)) else (decide (a.Tx = b.Tx) && (decide (a.For = b.For) && true))) = _
  rw [e]

structure GLocks where
  Held : List GLock
  Waits : List GWait
def GLocks.av (x : GLocks) : AV := .agg [.d (.sl 4 (x.Held.map GLock.row)), .d (.sl 2 (x.Waits.map GWait.row))]
theorem GLocks.ext1 {a b : GLocks} (h0 : a.Held = b.Held) (h1 : a.Waits = b.Waits) : a = b := by cases a; cases b; simp_all
def GLocks.row (x : GLocks) : List D := [.sl 4 (x.Held.map GLock.row), .sl 2 (x.Waits.map GWait.row)]
def GLocks.wf (x : GLocks) : Prop := wfL GLock.wf x.Held ∧ wfL GWait.wf x.Waits
def GLocks.sz (x : GLocks) : Nat := szL (fun _ => 0) x.Held + szL (fun _ => 0) x.Waits
def GLocks.zero : GLocks := ⟨[], []⟩
theorem GLocks.dec {P : Program} {t : TypeId} {fs : Array Field} {f0 f1 : Field} (h : P.underlying t = some (.struct fs)) (hfs : fs.toList = [f0, f1]) (d0 : Dec P f0.type (fun xs => [.sl 4 (xs.map GLock.row)]) (wfL GLock.wf)) (d1 : Dec P f1.type (fun xs => [.sl 2 (xs.map GWait.row)]) (wfL GWait.wf)) : Dec P t GLocks.row GLocks.wf := fun hc => by
  have g := hasC_struct h hc
  rw [hfs] at g
  obtain ⟨a0, b0, e0, c0, g⟩ := hasFs_cons g
  obtain ⟨x0, r0, w0⟩ := d0 c0
  obtain ⟨a1, b1, e1, c1, g⟩ := hasFs_cons g
  obtain ⟨x1, r1, w1⟩ := d1 c1
  have z := hasFs_nil g
  exact ⟨⟨x0, x1⟩, by rw [e0, r0, e1, r1, z]; rfl, ⟨w0, w1⟩⟩
abbrev GLocks.avO (e0 e1 : Nat) (x : GLocks) : AV := .agg [.osl e0 4 0 x.Held.length, .osl e1 2 0 x.Waits.length]
abbrev GLocks.hO (e0 e1 : Nat) (x : GLocks) : List (Nat × OB) := [(e0, .rows 4 (x.Held.map GLock.row)), (e1, .rows 2 (x.Waits.map GWait.row))]
def GLocks.mkS (k : Nat) (x : GLocks) : GLocks := ⟨markL GLock.mk1 4 (k) x.Held, markL GWait.mk1 2 (k + 4 * x.Held.length) x.Waits⟩
def GLocks.mkN (k : Nat) (x : GLocks) : Nat := k + 4 * x.Held.length + 2 * x.Waits.length

structure GPending where
  At : Int
  Data : Str
def GPending.av (x : GPending) : AV := .agg [.d (.int .i64 x.At), .d (.str x.Data)]
theorem GPending.ext1 {a b : GPending} (h0 : a.At = b.At) (h1 : a.Data = b.Data) : a = b := by cases a; cases b; simp_all
def GPending.row (x : GPending) : List D := [.int .i64 x.At, .str x.Data]
def GPending.wf (x : GPending) : Prop := wfInt x.At ∧ wfStr x.Data
def GPending.sz (x : GPending) : Nat := x.Data.length
def GPending.zero : GPending := ⟨0, []⟩
theorem GPending.dec {P : Program} {t : TypeId} {fs : Array Field} {f0 f1 : Field} (h : P.underlying t = some (.struct fs)) (hfs : fs.toList = [f0, f1]) (d0 : Dec P f0.type intRow wfInt) (d1 : Dec P f1.type strRow wfStr) : Dec P t GPending.row GPending.wf := fun hc => by
  have g := hasC_struct h hc
  rw [hfs] at g
  obtain ⟨a0, b0, e0, c0, g⟩ := hasFs_cons g
  obtain ⟨x0, r0, w0⟩ := d0 c0
  obtain ⟨a1, b1, e1, c1, g⟩ := hasFs_cons g
  obtain ⟨x1, r1, w1⟩ := d1 c1
  have z := hasFs_nil g
  exact ⟨⟨x0, x1⟩, by rw [e0, r0, e1, r1, z]; rfl, ⟨w0, w1⟩⟩
def GPending.mk1 (k : Nat) (x : GPending) : GPending := ⟨((k : Nat) : Int), mkT (k + 1)⟩
theorem GPending.eq_iff {a b : GPending} : a = b ↔ (a.At = b.At ∧ a.Data = b.Data) := by
  constructor
  · rintro rfl; exact ⟨rfl, rfl⟩
  · intro h; cases a; cases b; simp_all
theorem GPending.q_eqs {C : Cx} {st : St} {neg : Bool} {x y : XA} {a b : GPending} (hx : evA st.sl x = some a.av) (hy : evA st.sl y = some b.av) : QStep C st (.eqs neg [0, 2] x y) (bool (bif neg then !eqb a b else eqb a b)) := by
  refine q_as (Go.AM.q_eqs hx hy rfl) ?_
  have e : (decide (a.At = b.At) && (decide (a.Data = b.Data) && true)) = eqb a b := by
    rw [Bool.eq_iff_iff, eqb_iff, GPending.eq_iff]; simp [Bool.and_eq_true]
  show bool (bif neg then !(decide (a.At = b.At) && (decide (a.Data = b.Data) && true)) else (decide (a.At = b.At) && (decide (a.Data = b.Data) && true))) = _
  rw [e]

structure GDisk where
  Sectors : List Str
  Cache : List GPending
  Armed : Bool
  Keep : List Int
def GDisk.av (x : GDisk) : AV := .agg [.d (.sl 1 (x.Sectors.map strRow)), .d (.sl 2 (x.Cache.map GPending.row)), .d (.bool x.Armed), .d (.sl 1 (x.Keep.map intRow))]
theorem GDisk.ext1 {a b : GDisk} (h0 : a.Sectors = b.Sectors) (h1 : a.Cache = b.Cache) (h2 : a.Armed = b.Armed) (h3 : a.Keep = b.Keep) : a = b := by cases a; cases b; simp_all
def GDisk.row (x : GDisk) : List D := [.sl 1 (x.Sectors.map strRow), .sl 2 (x.Cache.map GPending.row), .bool x.Armed, .sl 1 (x.Keep.map intRow)]
def GDisk.wf (x : GDisk) : Prop := wfL wfStr x.Sectors ∧ wfL GPending.wf x.Cache ∧ (fun _ => True) x.Armed ∧ wfL wfInt x.Keep
def GDisk.sz (x : GDisk) : Nat := szL List.length x.Sectors + szL GPending.sz x.Cache + szL (fun _ => 0) x.Keep
def GDisk.zero : GDisk := ⟨[], [], false, []⟩
theorem GDisk.dec {P : Program} {t : TypeId} {fs : Array Field} {f0 f1 f2 f3 : Field} (h : P.underlying t = some (.struct fs)) (hfs : fs.toList = [f0, f1, f2, f3]) (d0 : Dec P f0.type (fun xs => [.sl 1 (xs.map strRow)]) (wfL wfStr)) (d1 : Dec P f1.type (fun xs => [.sl 2 (xs.map GPending.row)]) (wfL GPending.wf)) (d2 : Dec P f2.type boolRow (fun _ => True)) (d3 : Dec P f3.type (fun xs => [.sl 1 (xs.map intRow)]) (wfL wfInt)) : Dec P t GDisk.row GDisk.wf := fun hc => by
  have g := hasC_struct h hc
  rw [hfs] at g
  obtain ⟨a0, b0, e0, c0, g⟩ := hasFs_cons g
  obtain ⟨x0, r0, w0⟩ := d0 c0
  obtain ⟨a1, b1, e1, c1, g⟩ := hasFs_cons g
  obtain ⟨x1, r1, w1⟩ := d1 c1
  obtain ⟨a2, b2, e2, c2, g⟩ := hasFs_cons g
  obtain ⟨x2, r2, w2⟩ := d2 c2
  obtain ⟨a3, b3, e3, c3, g⟩ := hasFs_cons g
  obtain ⟨x3, r3, w3⟩ := d3 c3
  have z := hasFs_nil g
  exact ⟨⟨x0, x1, x2, x3⟩, by rw [e0, r0, e1, r1, e2, r2, e3, r3, z]; rfl, ⟨w0, w1, w2, w3⟩⟩
abbrev GDisk.avO (e0 e1 e2 : Nat) (x : GDisk) : AV := .agg [.osl e0 1 0 x.Sectors.length, .osl e1 2 0 x.Cache.length, .d (.bool x.Armed), .osl e2 1 0 x.Keep.length]
abbrev GDisk.hO (e0 e1 e2 : Nat) (x : GDisk) : List (Nat × OB) := [(e0, .rows 1 (x.Sectors.map strRow)), (e1, .rows 2 (x.Cache.map GPending.row)), (e2, .rows 1 (x.Keep.map intRow))]
def GDisk.mkS (k : Nat) (x : GDisk) : GDisk := ⟨markL (fun k _ => mkT k) 1 (k) x.Sectors, markL GPending.mk1 2 (k + 1 * x.Sectors.length) x.Cache, x.Armed, markL (fun k _ => (k : Int)) 1 (k + 1 * x.Sectors.length + 2 * x.Cache.length) x.Keep⟩
def GDisk.mkN (k : Nat) (x : GDisk) : Nat := k + 1 * x.Sectors.length + 2 * x.Cache.length + 1 * x.Keep.length

def Page.row (x : Page) : List D := [.int .i64 x.lsn, .sl 1 (x.slots.map strRow)]
def Page.wf (x : Page) : Prop := wfInt x.lsn ∧ wfL wfStr x.slots
def Page.sz (x : Page) : Nat := szL List.length x.slots
theorem Page.dec {P : Program} {t : TypeId} {fs : Array Field} {f0 f1 : Field} (h : P.underlying t = some (.struct fs)) (hfs : fs.toList = [f0, f1]) (d0 : Dec P f0.type intRow wfInt) (d1 : Dec P f1.type (fun xs => [.sl 1 (xs.map strRow)]) (wfL wfStr)) : Dec P t Page.row Page.wf := fun hc => by
  have g := hasC_struct h hc
  rw [hfs] at g
  obtain ⟨a0, b0, e0, c0, g⟩ := hasFs_cons g
  obtain ⟨x0, r0, w0⟩ := d0 c0
  obtain ⟨a1, b1, e1, c1, g⟩ := hasFs_cons g
  obtain ⟨x1, r1, w1⟩ := d1 c1
  have z := hasFs_nil g
  exact ⟨⟨x0, x1⟩, by rw [e0, r0, e1, r1, z]; rfl, ⟨w0, w1⟩⟩
abbrev Page.avO (e0 : Nat) (x : Page) : AV := .agg [.d (.int .i64 x.lsn), .osl e0 1 0 x.slots.length]
abbrev Page.hO (e0 : Nat) (x : Page) : List (Nat × OB) := [(e0, .rows 1 (x.slots.map strRow))]
def Page.mkS (k : Nat) (x : Page) : Page := ⟨x.lsn, markL (fun k _ => mkT k) 1 (k) x.slots⟩
def Page.mkN (k : Nat) (x : Page) : Nat := k + 1 * x.slots.length

structure GValue where
  Kind : Int
  N : Int
  T : Str
def GValue.av (x : GValue) : AV := .agg [.d (.int .i64 x.Kind), .d (.int .i64 x.N), .d (.str x.T)]
theorem GValue.ext1 {a b : GValue} (h0 : a.Kind = b.Kind) (h1 : a.N = b.N) (h2 : a.T = b.T) : a = b := by cases a; cases b; simp_all
def GValue.row (x : GValue) : List D := [.int .i64 x.Kind, .int .i64 x.N, .str x.T]
def GValue.wf (x : GValue) : Prop := wfInt x.Kind ∧ wfInt x.N ∧ wfStr x.T
def GValue.sz (x : GValue) : Nat := x.T.length
def GValue.zero : GValue := ⟨0, 0, []⟩
theorem GValue.dec {P : Program} {t : TypeId} {fs : Array Field} {f0 f1 f2 : Field} (h : P.underlying t = some (.struct fs)) (hfs : fs.toList = [f0, f1, f2]) (d0 : Dec P f0.type intRow wfInt) (d1 : Dec P f1.type intRow wfInt) (d2 : Dec P f2.type strRow wfStr) : Dec P t GValue.row GValue.wf := fun hc => by
  have g := hasC_struct h hc
  rw [hfs] at g
  obtain ⟨a0, b0, e0, c0, g⟩ := hasFs_cons g
  obtain ⟨x0, r0, w0⟩ := d0 c0
  obtain ⟨a1, b1, e1, c1, g⟩ := hasFs_cons g
  obtain ⟨x1, r1, w1⟩ := d1 c1
  obtain ⟨a2, b2, e2, c2, g⟩ := hasFs_cons g
  obtain ⟨x2, r2, w2⟩ := d2 c2
  have z := hasFs_nil g
  exact ⟨⟨x0, x1, x2⟩, by rw [e0, r0, e1, r1, e2, r2, z]; rfl, ⟨w0, w1, w2⟩⟩
def GValue.mk1 (k : Nat) (x : GValue) : GValue := ⟨((k : Nat) : Int), ((k + 1 : Nat) : Int), mkT (k + 2)⟩
theorem GValue.eq_iff {a b : GValue} : a = b ↔ (a.Kind = b.Kind ∧ a.N = b.N ∧ a.T = b.T) := by
  constructor
  · rintro rfl; exact ⟨rfl, rfl, rfl⟩
  · intro h; cases a; cases b; simp_all
theorem GValue.q_eqs {C : Cx} {st : St} {neg : Bool} {x y : XA} {a b : GValue} (hx : evA st.sl x = some a.av) (hy : evA st.sl y = some b.av) : QStep C st (.eqs neg [0, 0, 2] x y) (bool (bif neg then !eqb a b else eqb a b)) := by
  refine q_as (Go.AM.q_eqs hx hy rfl) ?_
  have e : (decide (a.Kind = b.Kind) && (decide (a.N = b.N) && (decide (a.T = b.T) && true))) = eqb a b := by
    rw [Bool.eq_iff_iff, eqb_iff, GValue.eq_iff]; simp [Bool.and_eq_true]
  show bool (bif neg then !(decide (a.Kind = b.Kind) && (decide (a.N = b.N) && (decide (a.T = b.T) && true))) else (decide (a.Kind = b.Kind) && (decide (a.N = b.N) && (decide (a.T = b.T) && true)))) = _
  rw [e]

structure GExprNode where
  Op : Int
  A : Int
  B : Int
  Column : Int
  V : GValue
def GExprNode.av (x : GExprNode) : AV := .agg [.d (.int .i64 x.Op), .d (.int .i64 x.A), .d (.int .i64 x.B), .d (.int .i64 x.Column), .d (.int .i64 x.V.Kind), .d (.int .i64 x.V.N), .d (.str x.V.T)]
theorem GExprNode.ext1 {a b : GExprNode} (h0 : a.Op = b.Op) (h1 : a.A = b.A) (h2 : a.B = b.B) (h3 : a.Column = b.Column) (h4 : a.V = b.V) : a = b := by cases a; cases b; simp_all
def GExprNode.row (x : GExprNode) : List D := [.int .i64 x.Op, .int .i64 x.A, .int .i64 x.B, .int .i64 x.Column, .int .i64 x.V.Kind, .int .i64 x.V.N, .str x.V.T]
def GExprNode.wf (x : GExprNode) : Prop := wfInt x.Op ∧ wfInt x.A ∧ wfInt x.B ∧ wfInt x.Column ∧ GValue.wf x.V
def GExprNode.sz (x : GExprNode) : Nat := GValue.sz x.V
def GExprNode.zero : GExprNode := ⟨0, 0, 0, 0, GValue.zero⟩
theorem GExprNode.dec {P : Program} {t : TypeId} {fs : Array Field} {f0 f1 f2 f3 f4 : Field} (h : P.underlying t = some (.struct fs)) (hfs : fs.toList = [f0, f1, f2, f3, f4]) (d0 : Dec P f0.type intRow wfInt) (d1 : Dec P f1.type intRow wfInt) (d2 : Dec P f2.type intRow wfInt) (d3 : Dec P f3.type intRow wfInt) (d4 : Dec P f4.type GValue.row GValue.wf) : Dec P t GExprNode.row GExprNode.wf := fun hc => by
  have g := hasC_struct h hc
  rw [hfs] at g
  obtain ⟨a0, b0, e0, c0, g⟩ := hasFs_cons g
  obtain ⟨x0, r0, w0⟩ := d0 c0
  obtain ⟨a1, b1, e1, c1, g⟩ := hasFs_cons g
  obtain ⟨x1, r1, w1⟩ := d1 c1
  obtain ⟨a2, b2, e2, c2, g⟩ := hasFs_cons g
  obtain ⟨x2, r2, w2⟩ := d2 c2
  obtain ⟨a3, b3, e3, c3, g⟩ := hasFs_cons g
  obtain ⟨x3, r3, w3⟩ := d3 c3
  obtain ⟨a4, b4, e4, c4, g⟩ := hasFs_cons g
  obtain ⟨x4, r4, w4⟩ := d4 c4
  have z := hasFs_nil g
  exact ⟨⟨x0, x1, x2, x3, x4⟩, by rw [e0, r0, e1, r1, e2, r2, e3, r3, e4, r4, z]; rfl, ⟨w0, w1, w2, w3, w4⟩⟩
def GExprNode.mk1 (k : Nat) (x : GExprNode) : GExprNode := ⟨((k : Nat) : Int), ((k + 1 : Nat) : Int), ((k + 2 : Nat) : Int), ((k + 3 : Nat) : Int), ⟨((k + 4 : Nat) : Int), ((k + 5 : Nat) : Int), mkT (k + 6)⟩⟩
theorem GExprNode.eq_iff {a b : GExprNode} : a = b ↔ (a.Op = b.Op ∧ a.A = b.A ∧ a.B = b.B ∧ a.Column = b.Column ∧ a.V.Kind = b.V.Kind ∧ a.V.N = b.V.N ∧ a.V.T = b.V.T) := by
  constructor
  · rintro rfl; exact ⟨rfl, rfl, rfl, rfl, rfl, rfl, rfl⟩
  · intro h; cases a; cases b; simp_all [GValue.eq_iff]
theorem GExprNode.q_eqs {C : Cx} {st : St} {neg : Bool} {x y : XA} {a b : GExprNode} (hx : evA st.sl x = some a.av) (hy : evA st.sl y = some b.av) : QStep C st (.eqs neg [0, 0, 0, 0, 0, 0, 2] x y) (bool (bif neg then !eqb a b else eqb a b)) := by
  refine q_as (Go.AM.q_eqs hx hy rfl) ?_
  have e : (decide (a.Op = b.Op) && (decide (a.A = b.A) && (decide (a.B = b.B) && (decide (a.Column = b.Column) && (decide (a.V.Kind = b.V.Kind) && (decide (a.V.N = b.V.N) && (decide (a.V.T = b.V.T) && true))))))) = eqb a b := by
    rw [Bool.eq_iff_iff, eqb_iff, GExprNode.eq_iff]; simp [Bool.and_eq_true]
  show bool (bif neg then !(decide (a.Op = b.Op) && (decide (a.A = b.A) && (decide (a.B = b.B) && (decide (a.Column = b.Column) && (decide (a.V.Kind = b.V.Kind) && (decide (a.V.N = b.V.N) && (decide (a.V.T = b.V.T) && true))))))) else (decide (a.Op = b.Op) && (decide (a.A = b.A) && (decide (a.B = b.B) && (decide (a.Column = b.Column) && (decide (a.V.Kind = b.V.Kind) && (decide (a.V.N = b.V.N) && (decide (a.V.T = b.V.T) && true)))))))) = _
  rw [e]

structure GExpr where
  Nodes : List GExprNode
def GExpr.av (x : GExpr) : AV := .agg [.d (.sl 7 (x.Nodes.map GExprNode.row))]
theorem GExpr.ext1 {a b : GExpr} (h0 : a.Nodes = b.Nodes) : a = b := by cases a; cases b; simp_all
def GExpr.row (x : GExpr) : List D := [.sl 7 (x.Nodes.map GExprNode.row)]
def GExpr.wf (x : GExpr) : Prop := wfL GExprNode.wf x.Nodes
def GExpr.sz (x : GExpr) : Nat := szL GExprNode.sz x.Nodes
def GExpr.zero : GExpr := ⟨[]⟩
theorem GExpr.dec {P : Program} {t : TypeId} {fs : Array Field} {f0 : Field} (h : P.underlying t = some (.struct fs)) (hfs : fs.toList = [f0]) (d0 : Dec P f0.type (fun xs => [.sl 7 (xs.map GExprNode.row)]) (wfL GExprNode.wf)) : Dec P t GExpr.row GExpr.wf := fun hc => by
  have g := hasC_struct h hc
  rw [hfs] at g
  obtain ⟨a0, b0, e0, c0, g⟩ := hasFs_cons g
  obtain ⟨x0, r0, w0⟩ := d0 c0
  have z := hasFs_nil g
  exact ⟨⟨x0⟩, by rw [e0, r0, z]; rfl, w0⟩
abbrev GExpr.avO (e0 : Nat) (x : GExpr) : AV := .agg [.osl e0 7 0 x.Nodes.length]
abbrev GExpr.hO (e0 : Nat) (x : GExpr) : List (Nat × OB) := [(e0, .rows 7 (x.Nodes.map GExprNode.row))]
def GExpr.mkS (k : Nat) (x : GExpr) : GExpr := ⟨markL GExprNode.mk1 7 (k) x.Nodes⟩
def GExpr.mkN (k : Nat) (x : GExpr) : Nat := k + 7 * x.Nodes.length

structure GIns where
  Op : Int
  N : Int
  V : GValue
def GIns.av (x : GIns) : AV := .agg [.d (.int .i64 x.Op), .d (.int .i64 x.N), .d (.int .i64 x.V.Kind), .d (.int .i64 x.V.N), .d (.str x.V.T)]
theorem GIns.ext1 {a b : GIns} (h0 : a.Op = b.Op) (h1 : a.N = b.N) (h2 : a.V = b.V) : a = b := by cases a; cases b; simp_all
def GIns.row (x : GIns) : List D := [.int .i64 x.Op, .int .i64 x.N, .int .i64 x.V.Kind, .int .i64 x.V.N, .str x.V.T]
def GIns.wf (x : GIns) : Prop := wfInt x.Op ∧ wfInt x.N ∧ GValue.wf x.V
def GIns.sz (x : GIns) : Nat := GValue.sz x.V
def GIns.zero : GIns := ⟨0, 0, GValue.zero⟩
theorem GIns.dec {P : Program} {t : TypeId} {fs : Array Field} {f0 f1 f2 : Field} (h : P.underlying t = some (.struct fs)) (hfs : fs.toList = [f0, f1, f2]) (d0 : Dec P f0.type intRow wfInt) (d1 : Dec P f1.type intRow wfInt) (d2 : Dec P f2.type GValue.row GValue.wf) : Dec P t GIns.row GIns.wf := fun hc => by
  have g := hasC_struct h hc
  rw [hfs] at g
  obtain ⟨a0, b0, e0, c0, g⟩ := hasFs_cons g
  obtain ⟨x0, r0, w0⟩ := d0 c0
  obtain ⟨a1, b1, e1, c1, g⟩ := hasFs_cons g
  obtain ⟨x1, r1, w1⟩ := d1 c1
  obtain ⟨a2, b2, e2, c2, g⟩ := hasFs_cons g
  obtain ⟨x2, r2, w2⟩ := d2 c2
  have z := hasFs_nil g
  exact ⟨⟨x0, x1, x2⟩, by rw [e0, r0, e1, r1, e2, r2, z]; rfl, ⟨w0, w1, w2⟩⟩
def GIns.mk1 (k : Nat) (x : GIns) : GIns := ⟨((k : Nat) : Int), ((k + 1 : Nat) : Int), ⟨((k + 2 : Nat) : Int), ((k + 3 : Nat) : Int), mkT (k + 4)⟩⟩
theorem GIns.eq_iff {a b : GIns} : a = b ↔ (a.Op = b.Op ∧ a.N = b.N ∧ a.V.Kind = b.V.Kind ∧ a.V.N = b.V.N ∧ a.V.T = b.V.T) := by
  constructor
  · rintro rfl; exact ⟨rfl, rfl, rfl, rfl, rfl⟩
  · intro h; cases a; cases b; simp_all [GValue.eq_iff]
theorem GIns.q_eqs {C : Cx} {st : St} {neg : Bool} {x y : XA} {a b : GIns} (hx : evA st.sl x = some a.av) (hy : evA st.sl y = some b.av) : QStep C st (.eqs neg [0, 0, 0, 0, 2] x y) (bool (bif neg then !eqb a b else eqb a b)) := by
  refine q_as (Go.AM.q_eqs hx hy rfl) ?_
  have e : (decide (a.Op = b.Op) && (decide (a.N = b.N) && (decide (a.V.Kind = b.V.Kind) && (decide (a.V.N = b.V.N) && (decide (a.V.T = b.V.T) && true))))) = eqb a b := by
    rw [Bool.eq_iff_iff, eqb_iff, GIns.eq_iff]; simp [Bool.and_eq_true]
  show bool (bif neg then !(decide (a.Op = b.Op) && (decide (a.N = b.N) && (decide (a.V.Kind = b.V.Kind) && (decide (a.V.N = b.V.N) && (decide (a.V.T = b.V.T) && true))))) else (decide (a.Op = b.Op) && (decide (a.N = b.N) && (decide (a.V.Kind = b.V.Kind) && (decide (a.V.N = b.V.N) && (decide (a.V.T = b.V.T) && true)))))) = _
  rw [e]

structure GRow where
  Id : Int
  N : GValue
  Name : GValue
def GRow.av (x : GRow) : AV := .agg [.d (.int .i64 x.Id), .d (.int .i64 x.N.Kind), .d (.int .i64 x.N.N), .d (.str x.N.T), .d (.int .i64 x.Name.Kind), .d (.int .i64 x.Name.N), .d (.str x.Name.T)]
theorem GRow.ext1 {a b : GRow} (h0 : a.Id = b.Id) (h1 : a.N = b.N) (h2 : a.Name = b.Name) : a = b := by cases a; cases b; simp_all
def GRow.row (x : GRow) : List D := [.int .i64 x.Id, .int .i64 x.N.Kind, .int .i64 x.N.N, .str x.N.T, .int .i64 x.Name.Kind, .int .i64 x.Name.N, .str x.Name.T]
def GRow.wf (x : GRow) : Prop := wfInt x.Id ∧ GValue.wf x.N ∧ GValue.wf x.Name
def GRow.sz (x : GRow) : Nat := GValue.sz x.N + GValue.sz x.Name
def GRow.zero : GRow := ⟨0, GValue.zero, GValue.zero⟩
theorem GRow.dec {P : Program} {t : TypeId} {fs : Array Field} {f0 f1 f2 : Field} (h : P.underlying t = some (.struct fs)) (hfs : fs.toList = [f0, f1, f2]) (d0 : Dec P f0.type intRow wfInt) (d1 : Dec P f1.type GValue.row GValue.wf) (d2 : Dec P f2.type GValue.row GValue.wf) : Dec P t GRow.row GRow.wf := fun hc => by
  have g := hasC_struct h hc
  rw [hfs] at g
  obtain ⟨a0, b0, e0, c0, g⟩ := hasFs_cons g
  obtain ⟨x0, r0, w0⟩ := d0 c0
  obtain ⟨a1, b1, e1, c1, g⟩ := hasFs_cons g
  obtain ⟨x1, r1, w1⟩ := d1 c1
  obtain ⟨a2, b2, e2, c2, g⟩ := hasFs_cons g
  obtain ⟨x2, r2, w2⟩ := d2 c2
  have z := hasFs_nil g
  exact ⟨⟨x0, x1, x2⟩, by rw [e0, r0, e1, r1, e2, r2, z]; rfl, ⟨w0, w1, w2⟩⟩
def GRow.mk1 (k : Nat) (x : GRow) : GRow := ⟨((k : Nat) : Int), ⟨((k + 1 : Nat) : Int), ((k + 2 : Nat) : Int), mkT (k + 3)⟩, ⟨((k + 4 : Nat) : Int), ((k + 5 : Nat) : Int), mkT (k + 6)⟩⟩
theorem GRow.eq_iff {a b : GRow} : a = b ↔ (a.Id = b.Id ∧ a.N.Kind = b.N.Kind ∧ a.N.N = b.N.N ∧ a.N.T = b.N.T ∧ a.Name.Kind = b.Name.Kind ∧ a.Name.N = b.Name.N ∧ a.Name.T = b.Name.T) := by
  constructor
  · rintro rfl; exact ⟨rfl, rfl, rfl, rfl, rfl, rfl, rfl⟩
  · intro h; cases a; cases b; simp_all [GValue.eq_iff, GValue.eq_iff]
theorem GRow.q_eqs {C : Cx} {st : St} {neg : Bool} {x y : XA} {a b : GRow} (hx : evA st.sl x = some a.av) (hy : evA st.sl y = some b.av) : QStep C st (.eqs neg [0, 0, 0, 2, 0, 0, 2] x y) (bool (bif neg then !eqb a b else eqb a b)) := by
  refine q_as (Go.AM.q_eqs hx hy rfl) ?_
  have e : (decide (a.Id = b.Id) && (decide (a.N.Kind = b.N.Kind) && (decide (a.N.N = b.N.N) && (decide (a.N.T = b.N.T) && (decide (a.Name.Kind = b.Name.Kind) && (decide (a.Name.N = b.Name.N) && (decide (a.Name.T = b.Name.T) && true))))))) = eqb a b := by
    rw [Bool.eq_iff_iff, eqb_iff, GRow.eq_iff]; simp [Bool.and_eq_true]
  show bool (bif neg then !(decide (a.Id = b.Id) && (decide (a.N.Kind = b.N.Kind) && (decide (a.N.N = b.N.N) && (decide (a.N.T = b.N.T) && (decide (a.Name.Kind = b.Name.Kind) && (decide (a.Name.N = b.Name.N) && (decide (a.Name.T = b.Name.T) && true))))))) else (decide (a.Id = b.Id) && (decide (a.N.Kind = b.N.Kind) && (decide (a.N.N = b.N.N) && (decide (a.N.T = b.N.T) && (decide (a.Name.Kind = b.Name.Kind) && (decide (a.Name.N = b.Name.N) && (decide (a.Name.T = b.Name.T) && true)))))))) = _
  rw [e]

structure GStmt where
  Kind : Int
  Table : Int
  Row : GRow
  Column : Int
  Set : GExpr
  Where : GExpr
  Order : Int
  Down : Bool
def GStmt.av (x : GStmt) : AV := .agg [.d (.int .i64 x.Kind), .d (.int .i64 x.Table), .d (.int .i64 x.Row.Id), .d (.int .i64 x.Row.N.Kind), .d (.int .i64 x.Row.N.N), .d (.str x.Row.N.T), .d (.int .i64 x.Row.Name.Kind), .d (.int .i64 x.Row.Name.N), .d (.str x.Row.Name.T), .d (.int .i64 x.Column), .d (.sl 7 (x.Set.Nodes.map GExprNode.row)), .d (.sl 7 (x.Where.Nodes.map GExprNode.row)), .d (.int .i64 x.Order), .d (.bool x.Down)]
theorem GStmt.ext1 {a b : GStmt} (h0 : a.Kind = b.Kind) (h1 : a.Table = b.Table) (h2 : a.Row = b.Row) (h3 : a.Column = b.Column) (h4 : a.Set = b.Set) (h5 : a.Where = b.Where) (h6 : a.Order = b.Order) (h7 : a.Down = b.Down) : a = b := by cases a; cases b; simp_all
def GStmt.row (x : GStmt) : List D := [.int .i64 x.Kind, .int .i64 x.Table, .int .i64 x.Row.Id, .int .i64 x.Row.N.Kind, .int .i64 x.Row.N.N, .str x.Row.N.T, .int .i64 x.Row.Name.Kind, .int .i64 x.Row.Name.N, .str x.Row.Name.T, .int .i64 x.Column, .sl 7 (x.Set.Nodes.map GExprNode.row), .sl 7 (x.Where.Nodes.map GExprNode.row), .int .i64 x.Order, .bool x.Down]
def GStmt.wf (x : GStmt) : Prop := wfInt x.Kind ∧ wfInt x.Table ∧ GRow.wf x.Row ∧ wfInt x.Column ∧ GExpr.wf x.Set ∧ GExpr.wf x.Where ∧ wfInt x.Order ∧ (fun _ => True) x.Down
def GStmt.sz (x : GStmt) : Nat := GRow.sz x.Row + GExpr.sz x.Set + GExpr.sz x.Where
def GStmt.zero : GStmt := ⟨0, 0, GRow.zero, 0, GExpr.zero, GExpr.zero, 0, false⟩
theorem GStmt.dec {P : Program} {t : TypeId} {fs : Array Field} {f0 f1 f2 f3 f4 f5 f6 f7 : Field} (h : P.underlying t = some (.struct fs)) (hfs : fs.toList = [f0, f1, f2, f3, f4, f5, f6, f7]) (d0 : Dec P f0.type intRow wfInt) (d1 : Dec P f1.type intRow wfInt) (d2 : Dec P f2.type GRow.row GRow.wf) (d3 : Dec P f3.type intRow wfInt) (d4 : Dec P f4.type GExpr.row GExpr.wf) (d5 : Dec P f5.type GExpr.row GExpr.wf) (d6 : Dec P f6.type intRow wfInt) (d7 : Dec P f7.type boolRow (fun _ => True)) : Dec P t GStmt.row GStmt.wf := fun hc => by
  have g := hasC_struct h hc
  rw [hfs] at g
  obtain ⟨a0, b0, e0, c0, g⟩ := hasFs_cons g
  obtain ⟨x0, r0, w0⟩ := d0 c0
  obtain ⟨a1, b1, e1, c1, g⟩ := hasFs_cons g
  obtain ⟨x1, r1, w1⟩ := d1 c1
  obtain ⟨a2, b2, e2, c2, g⟩ := hasFs_cons g
  obtain ⟨x2, r2, w2⟩ := d2 c2
  obtain ⟨a3, b3, e3, c3, g⟩ := hasFs_cons g
  obtain ⟨x3, r3, w3⟩ := d3 c3
  obtain ⟨a4, b4, e4, c4, g⟩ := hasFs_cons g
  obtain ⟨x4, r4, w4⟩ := d4 c4
  obtain ⟨a5, b5, e5, c5, g⟩ := hasFs_cons g
  obtain ⟨x5, r5, w5⟩ := d5 c5
  obtain ⟨a6, b6, e6, c6, g⟩ := hasFs_cons g
  obtain ⟨x6, r6, w6⟩ := d6 c6
  obtain ⟨a7, b7, e7, c7, g⟩ := hasFs_cons g
  obtain ⟨x7, r7, w7⟩ := d7 c7
  have z := hasFs_nil g
  exact ⟨⟨x0, x1, x2, x3, x4, x5, x6, x7⟩, by rw [e0, r0, e1, r1, e2, r2, e3, r3, e4, r4, e5, r5, e6, r6, e7, r7, z]; rfl, ⟨w0, w1, w2, w3, w4, w5, w6, w7⟩⟩
abbrev GStmt.avO (e0 e1 : Nat) (x : GStmt) : AV := .agg [.d (.int .i64 x.Kind), .d (.int .i64 x.Table), .d (.int .i64 x.Row.Id), .d (.int .i64 x.Row.N.Kind), .d (.int .i64 x.Row.N.N), .d (.str x.Row.N.T), .d (.int .i64 x.Row.Name.Kind), .d (.int .i64 x.Row.Name.N), .d (.str x.Row.Name.T), .d (.int .i64 x.Column), .osl e0 7 0 x.Set.Nodes.length, .osl e1 7 0 x.Where.Nodes.length, .d (.int .i64 x.Order), .d (.bool x.Down)]
abbrev GStmt.hO (e0 e1 : Nat) (x : GStmt) : List (Nat × OB) := [(e0, .rows 7 (x.Set.Nodes.map GExprNode.row)), (e1, .rows 7 (x.Where.Nodes.map GExprNode.row))]
def GStmt.mkS (k : Nat) (x : GStmt) : GStmt := ⟨x.Kind, x.Table, ⟨x.Row.Id, ⟨x.Row.N.Kind, x.Row.N.N, x.Row.N.T⟩, ⟨x.Row.Name.Kind, x.Row.Name.N, x.Row.Name.T⟩⟩, x.Column, ⟨markL GExprNode.mk1 7 (k) x.Set.Nodes⟩, ⟨markL GExprNode.mk1 7 (k + 7 * x.Set.Nodes.length) x.Where.Nodes⟩, x.Order, x.Down⟩
def GStmt.mkN (k : Nat) (x : GStmt) : Nat := k + 7 * x.Set.Nodes.length + 7 * x.Where.Nodes.length

structure GAnswer where
  Rows : List GRow
  Count : Int
def GAnswer.av (x : GAnswer) : AV := .agg [.d (.sl 7 (x.Rows.map GRow.row)), .d (.int .i64 x.Count)]
theorem GAnswer.ext1 {a b : GAnswer} (h0 : a.Rows = b.Rows) (h1 : a.Count = b.Count) : a = b := by cases a; cases b; simp_all
def GAnswer.row (x : GAnswer) : List D := [.sl 7 (x.Rows.map GRow.row), .int .i64 x.Count]
def GAnswer.wf (x : GAnswer) : Prop := wfL GRow.wf x.Rows ∧ wfInt x.Count
def GAnswer.sz (x : GAnswer) : Nat := szL GRow.sz x.Rows
def GAnswer.zero : GAnswer := ⟨[], 0⟩
theorem GAnswer.dec {P : Program} {t : TypeId} {fs : Array Field} {f0 f1 : Field} (h : P.underlying t = some (.struct fs)) (hfs : fs.toList = [f0, f1]) (d0 : Dec P f0.type (fun xs => [.sl 7 (xs.map GRow.row)]) (wfL GRow.wf)) (d1 : Dec P f1.type intRow wfInt) : Dec P t GAnswer.row GAnswer.wf := fun hc => by
  have g := hasC_struct h hc
  rw [hfs] at g
  obtain ⟨a0, b0, e0, c0, g⟩ := hasFs_cons g
  obtain ⟨x0, r0, w0⟩ := d0 c0
  obtain ⟨a1, b1, e1, c1, g⟩ := hasFs_cons g
  obtain ⟨x1, r1, w1⟩ := d1 c1
  have z := hasFs_nil g
  exact ⟨⟨x0, x1⟩, by rw [e0, r0, e1, r1, z]; rfl, ⟨w0, w1⟩⟩
abbrev GAnswer.avO (e0 : Nat) (x : GAnswer) : AV := .agg [.osl e0 7 0 x.Rows.length, .d (.int .i64 x.Count)]
abbrev GAnswer.hO (e0 : Nat) (x : GAnswer) : List (Nat × OB) := [(e0, .rows 7 (x.Rows.map GRow.row))]
def GAnswer.mkS (k : Nat) (x : GAnswer) : GAnswer := ⟨markL GRow.mk1 7 (k) x.Rows, x.Count⟩
def GAnswer.mkN (k : Nat) (x : GAnswer) : Nat := k + 7 * x.Rows.length

structure GChange where
  Session : Int
  Table : Int
  Row : GRow
  Gone : Bool
def GChange.av (x : GChange) : AV := .agg [.d (.int .i64 x.Session), .d (.int .i64 x.Table), .d (.int .i64 x.Row.Id), .d (.int .i64 x.Row.N.Kind), .d (.int .i64 x.Row.N.N), .d (.str x.Row.N.T), .d (.int .i64 x.Row.Name.Kind), .d (.int .i64 x.Row.Name.N), .d (.str x.Row.Name.T), .d (.bool x.Gone)]
theorem GChange.ext1 {a b : GChange} (h0 : a.Session = b.Session) (h1 : a.Table = b.Table) (h2 : a.Row = b.Row) (h3 : a.Gone = b.Gone) : a = b := by cases a; cases b; simp_all
def GChange.row (x : GChange) : List D := [.int .i64 x.Session, .int .i64 x.Table, .int .i64 x.Row.Id, .int .i64 x.Row.N.Kind, .int .i64 x.Row.N.N, .str x.Row.N.T, .int .i64 x.Row.Name.Kind, .int .i64 x.Row.Name.N, .str x.Row.Name.T, .bool x.Gone]
def GChange.wf (x : GChange) : Prop := wfInt x.Session ∧ wfInt x.Table ∧ GRow.wf x.Row ∧ (fun _ => True) x.Gone
def GChange.sz (x : GChange) : Nat := GRow.sz x.Row
def GChange.zero : GChange := ⟨0, 0, GRow.zero, false⟩
theorem GChange.dec {P : Program} {t : TypeId} {fs : Array Field} {f0 f1 f2 f3 : Field} (h : P.underlying t = some (.struct fs)) (hfs : fs.toList = [f0, f1, f2, f3]) (d0 : Dec P f0.type intRow wfInt) (d1 : Dec P f1.type intRow wfInt) (d2 : Dec P f2.type GRow.row GRow.wf) (d3 : Dec P f3.type boolRow (fun _ => True)) : Dec P t GChange.row GChange.wf := fun hc => by
  have g := hasC_struct h hc
  rw [hfs] at g
  obtain ⟨a0, b0, e0, c0, g⟩ := hasFs_cons g
  obtain ⟨x0, r0, w0⟩ := d0 c0
  obtain ⟨a1, b1, e1, c1, g⟩ := hasFs_cons g
  obtain ⟨x1, r1, w1⟩ := d1 c1
  obtain ⟨a2, b2, e2, c2, g⟩ := hasFs_cons g
  obtain ⟨x2, r2, w2⟩ := d2 c2
  obtain ⟨a3, b3, e3, c3, g⟩ := hasFs_cons g
  obtain ⟨x3, r3, w3⟩ := d3 c3
  have z := hasFs_nil g
  exact ⟨⟨x0, x1, x2, x3⟩, by rw [e0, r0, e1, r1, e2, r2, e3, r3, z]; rfl, ⟨w0, w1, w2, w3⟩⟩
def GChange.mk1 (k : Nat) (x : GChange) : GChange := ⟨((k : Nat) : Int), ((k + 1 : Nat) : Int), ⟨((k + 2 : Nat) : Int), ⟨((k + 3 : Nat) : Int), ((k + 4 : Nat) : Int), mkT (k + 5)⟩, ⟨((k + 6 : Nat) : Int), ((k + 7 : Nat) : Int), mkT (k + 8)⟩⟩, (decide (((k + 9 : Nat) : Int) % 3 = 0))⟩
theorem GChange.eq_iff {a b : GChange} : a = b ↔ (a.Session = b.Session ∧ a.Table = b.Table ∧ a.Row.Id = b.Row.Id ∧ a.Row.N.Kind = b.Row.N.Kind ∧ a.Row.N.N = b.Row.N.N ∧ a.Row.N.T = b.Row.N.T ∧ a.Row.Name.Kind = b.Row.Name.Kind ∧ a.Row.Name.N = b.Row.Name.N ∧ a.Row.Name.T = b.Row.Name.T ∧ a.Gone = b.Gone) := by
  constructor
  · rintro rfl; exact ⟨rfl, rfl, rfl, rfl, rfl, rfl, rfl, rfl, rfl, rfl⟩
  · intro h; cases a; cases b; simp_all [GRow.eq_iff]
theorem GChange.q_eqs {C : Cx} {st : St} {neg : Bool} {x y : XA} {a b : GChange} (hx : evA st.sl x = some a.av) (hy : evA st.sl y = some b.av) : QStep C st (.eqs neg [0, 0, 0, 0, 0, 2, 0, 0, 2, 1] x y) (bool (bif neg then !eqb a b else eqb a b)) := by
  refine q_as (Go.AM.q_eqs hx hy rfl) ?_
  have e : (decide (a.Session = b.Session) && (decide (a.Table = b.Table) && (decide (a.Row.Id = b.Row.Id) && (decide (a.Row.N.Kind = b.Row.N.Kind) && (decide (a.Row.N.N = b.Row.N.N) && (decide (a.Row.N.T = b.Row.N.T) && (decide (a.Row.Name.Kind = b.Row.Name.Kind) && (decide (a.Row.Name.N = b.Row.Name.N) && (decide (a.Row.Name.T = b.Row.Name.T) && (decide (a.Gone = b.Gone) && true)))))))))) = eqb a b := by
    rw [Bool.eq_iff_iff, eqb_iff, GChange.eq_iff]; simp [Bool.and_eq_true]
  show bool (bif neg then !(decide (a.Session = b.Session) && (decide (a.Table = b.Table) && (decide (a.Row.Id = b.Row.Id) && (decide (a.Row.N.Kind = b.Row.N.Kind) && (decide (a.Row.N.N = b.Row.N.N) && (decide (a.Row.N.T = b.Row.N.T) && (decide (a.Row.Name.Kind = b.Row.Name.Kind) && (decide (a.Row.Name.N = b.Row.Name.N) && (decide (a.Row.Name.T = b.Row.Name.T) && (decide (a.Gone = b.Gone) && true)))))))))) else (decide (a.Session = b.Session) && (decide (a.Table = b.Table) && (decide (a.Row.Id = b.Row.Id) && (decide (a.Row.N.Kind = b.Row.N.Kind) && (decide (a.Row.N.N = b.Row.N.N) && (decide (a.Row.N.T = b.Row.N.T) && (decide (a.Row.Name.Kind = b.Row.Name.Kind) && (decide (a.Row.Name.N = b.Row.Name.N) && (decide (a.Row.Name.T = b.Row.Name.T) && (decide (a.Gone = b.Gone) && true))))))))))) = _
  rw [e]

end Go.AM

/- Plain laws: sources of choices. -/
namespace Go.AM
structure Src where
  code : Str
  pos : Int
  seed : Int
abbrev Src.box (s : Src) : OB := .box [.d (.sl 1 (s.code.map byteRow)), int s.pos, int s.seed]
abbrev Src.h (e : Nat) (s : Src) : List (Nat × OB) := [(e, s.box)]
structure Src.ok (s : Src) (n : Nat) : Prop where
  pos : 0 ≤ s.pos ∧ s.pos + n ≤ 1000000000
  seed : 0 ≤ s.seed ∧ s.seed < 2147483648
  len : s.code.length ≤ 1048576
theorem Src.ok.mono {s : Src} {n m : Nat} (h : s.ok n) (hm : m ≤ n) : s.ok m := ⟨by have := h.pos; omega, h.seed, h.len⟩
def srcOf (code : Str) : Src := ⟨code, 0, (code.length : Int) % 1000⟩
theorem srcOf_ok {code : Str} (h : code.length ≤ 1048576) : (srcOf code).ok 1000000000 := ⟨by simp [srcOf], by unfold srcOf; dsimp only; omega, h⟩
def byteF (s : Src) : Int × Src :=
  if s.pos + 1 ≤ s.code.length then ((s.code.getD s.pos.toNat 0).toNat, ⟨s.code, s.pos + 1, (s.seed * 31 + (s.code.getD s.pos.toNat 0).toNat + 7) % 2147483648⟩)
  else if 3000 < s.pos + 1 then (0, ⟨s.code, s.pos + 1, s.seed⟩)
  else ((s.seed * 1103515245 + 12345) % 2147483648 / 65536 % 256, ⟨s.code, s.pos + 1, (s.seed * 1103515245 + 12345) % 2147483648⟩)
theorem byteF_1 {s : Src} (h : s.pos + 1 ≤ s.code.length) : byteF s = (((s.code.getD s.pos.toNat 0).toNat : Int), ⟨s.code, s.pos + 1, (s.seed * 31 + (s.code.getD s.pos.toNat 0).toNat + 7) % 2147483648⟩) := by unfold byteF; rw [if_pos h]
theorem byteF_2 {s : Src} (h : ¬ s.pos + 1 ≤ s.code.length) (h1 : 3000 < s.pos + 1) : byteF s = (0, ⟨s.code, s.pos + 1, s.seed⟩) := by unfold byteF; rw [if_neg h, if_pos h1]
theorem byteF_3 {s : Src} (h : ¬ s.pos + 1 ≤ s.code.length) (h1 : ¬ 3000 < s.pos + 1) : byteF s = ((s.seed * 1103515245 + 12345) % 2147483648 / 65536 % 256, ⟨s.code, s.pos + 1, (s.seed * 1103515245 + 12345) % 2147483648⟩) := by unfold byteF; rw [if_neg h, if_neg h1]
theorem byteF_ok {s : Src} {n : Nat} (h : s.ok (n + 1)) : (byteF s).2.ok n ∧ 0 ≤ (byteF s).1 ∧ (byteF s).1 < 256 := by
  have h1 := h.pos
  have h2 := h.seed
  have h3 := h.len
  have h4 := (s.code.getD s.pos.toNat 0).toNat_lt
  unfold byteF
  split
  · exact ⟨⟨by dsimp only; omega, by dsimp only; omega, h3⟩, by dsimp only; omega, by dsimp only; omega⟩
  · split
    · exact ⟨⟨by dsimp only; omega, h2, h3⟩, by dsimp only; omega, by dsimp only; omega⟩
    · exact ⟨⟨by dsimp only; omega, by dsimp only; omega, h3⟩, by dsimp only; omega, by dsimp only; omega⟩
def nextF (s : Src) (n : Int) : Int × Src :=
  if n ≤ 1 then (0, s) else if n ≤ 256 then ((byteF s).1 % n, (byteF s).2)
  else (((byteF s).1 * 65536 + (byteF (byteF s).2).1 * 256 + (byteF (byteF (byteF s).2).2).1) % n, (byteF (byteF (byteF s).2).2).2)
theorem nextF_1 {s : Src} {n : Int} (h : n ≤ 1) : nextF s n = (0, s) := by unfold nextF; rw [if_pos h]
theorem nextF_2 {s : Src} {n : Int} (h : ¬ n ≤ 1) (h1 : n ≤ 256) : nextF s n = ((byteF s).1 % n, (byteF s).2) := by unfold nextF; rw [if_neg h, if_pos h1]
theorem nextF_3 {s : Src} {n : Int} (h : ¬ n ≤ 1) (h1 : ¬ n ≤ 256) : nextF s n = (((byteF s).1 * 65536 + (byteF (byteF s).2).1 * 256 + (byteF (byteF (byteF s).2).2).1) % n, (byteF (byteF (byteF s).2).2).2) := by unfold nextF; rw [if_neg h, if_neg h1]
theorem nextF_ok {s : Src} {n : Int} {k : Nat} (h : s.ok (k + 3)) : (nextF s n).2.ok k ∧ 0 ≤ (nextF s n).1 ∧ (1 ≤ n → (nextF s n).1 < n) := by
  unfold nextF
  split
  · exact ⟨h.mono (by omega), by dsimp only; omega, fun _ => by dsimp only; omega⟩
  · rename_i h1
    split
    · obtain ⟨h2, h3, h4⟩ := byteF_ok (n := k) (h.mono (by omega))
      exact ⟨h2, Int.emod_nonneg _ (by omega), fun _ => Int.emod_lt_of_pos _ (by omega)⟩
    · obtain ⟨h2, h3, h4⟩ := byteF_ok (n := k + 2) h
      obtain ⟨h5, h6, h7⟩ := byteF_ok (n := k + 1) h2
      obtain ⟨h8, h9, h10⟩ := byteF_ok (n := k) h5
      exact ⟨h8, Int.emod_nonneg _ (by omega), fun _ => Int.emod_lt_of_pos _ (by omega)⟩
def chanceF (s : Src) (n : Int) : Bool × Src := (decide ((nextF s n).1 = n - 1), (nextF s n).2)
theorem getD_at {l : Str} {i : Nat} (h : i < l.length) : l.getD i 0 = l[i] := by simp [List.getD, h]
/-- The i-th choice out of n that some bytes make. -/
def atF (more : Str) (i n : Int) : Int :=
  if n ≤ 1 then 0 else if more = [] then i * 7 % n else
  (((more.getD (i % more.length).toNat 0).toNat * 31 + (more.getD ((i + 1) % more.length).toNat 0).toNat : Int) + i / more.length) % n
theorem atF_bounds {more : Str} {i n : Int} (hn : 1 ≤ n) : 0 ≤ atF more i n ∧ atF more i n < n := by
  unfold atF
  split
  · omega
  · split
    · exact ⟨Int.emod_nonneg _ (by omega), Int.emod_lt_of_pos _ (by omega)⟩
    · exact ⟨Int.emod_nonneg _ (by omega), Int.emod_lt_of_pos _ (by omega)⟩
end Go.AM

/- Plain laws: values, rows, expressions that are right. -/
namespace Go.AM
def badCh (b : UInt8) : Bool := !inR (b.toNat : Int) 97 122
def isWord (s : Str) : Bool := !s.any badCh && decide ((s.length : Int) ≤ 10)
def valueOK (v : GValue) : Bool := if v.Kind = 0 then decide (v.N = 0) && decide (v.T = []) else if v.Kind = 1 then inR v.N (-1000000000) 1000000000 && decide (v.T = []) else decide (v.Kind = 2) && decide (v.N = 0) && isWord v.T
theorem valueOK_0 {v : GValue} (h : v.Kind = 0) : valueOK v = (decide (v.N = 0) && decide (v.T = [])) := by unfold valueOK; rw [if_pos h]
theorem valueOK_1 {v : GValue} (h : v.Kind = 1) : valueOK v = (inR v.N (-1000000000) 1000000000 && decide (v.T = [])) := by unfold valueOK; rw [if_neg (by omega), if_pos h]
theorem valueOK_2 {v : GValue} (h : ¬ v.Kind = 0) (h1 : ¬ v.Kind = 1) : valueOK v = (decide (v.Kind = 2) && decide (v.N = 0) && isWord v.T) := by unfold valueOK; rw [if_neg h, if_neg h1]
theorem eqb_val0 {v : GValue} (h : v.Kind = 0) : eqb v GValue.zero = (decide (v.N = 0) && decide (v.T = [])) := by
  rw [Bool.eq_iff_iff, eqb_iff, GValue.eq_iff]
  simp [GValue.zero, h]
def rowOK (r : GRow) : Bool := (((inR r.Id 0 1000 && valueOK r.N) && valueOK r.Name) && !decide (r.N.Kind = 2)) && !decide (r.Name.Kind = 1)
theorem rowOK_i {r : GRow} : ((((inR r.Id 0 1000 && valueOK r.N) && !decide (r.N.Kind = 2)) && valueOK r.Name) && !decide (r.Name.Kind = 1)) = rowOK r := by
  unfold rowOK
  cases inR r.Id 0 1000 <;> cases valueOK r.N <;> cases valueOK r.Name <;> cases decide (r.N.Kind = 2) <;> rfl
end Go.AM

/- Plain laws: expressions that are right; what a walk from the end finds. -/
namespace Go.AM
def zeroV (v : GValue) : Bool := decide (v.Kind = 0) && (decide (v.N = 0) && (decide (v.T = []) && true))
def mxI (a b : Int) : Int := if b > a then b else a
theorem mxI_b {a b n : Int} (h1 : 0 ≤ a ∧ a ≤ n) (h2 : 0 ≤ b ∧ b ≤ n) : 0 ≤ mxI a b ∧ mxI a b ≤ n := by unfold mxI; split <;> omega
abbrev W3 := Int × Int × Bool
def nodeW (rec : Int → W3) (i : Int) (x : GExprNode) : W3 :=
  if x.Op = 1 then (i, 1, ((decide (x.A = 0) && decide (x.B = 0)) && decide (x.Column = 0)) && valueOK x.V)
  else if x.Op = 2 then (i, 1, ((decide (x.A = 0) && decide (x.B = 0)) && inR x.Column 0 2) && zeroV x.V)
  else if inR x.Op 3 5 = true then ((rec (i - 1)).1, (rec (i - 1)).2.1 + 1, ((((rec (i - 1)).2.2 && decide (x.A = i - 1)) && decide (x.B = 0)) && decide (x.Column = 0)) && zeroV x.V)
  else if inR x.Op 6 13 = true then
    (if (rec (i - 1)).2.2 = false then (0, 0, false)
     else ((rec ((rec (i - 1)).1 - 1)).1, mxI (rec ((rec (i - 1)).1 - 1)).2.1 (rec (i - 1)).2.1 + 1,
       ((((rec ((rec (i - 1)).1 - 1)).2.2 && decide (x.A = (rec (i - 1)).1 - 1)) && decide (x.B = i - 1)) && decide (x.Column = 0)) && zeroV x.V))
  else (0, 0, false)
def walkF (ns : List GExprNode) : Nat → Int → W3
  | 0, _ => (0, 0, false)
  | f + 1, i => if i < 0 then (0, 0, false) else match ns[i.toNat]? with
    | none => (0, 0, false)
    | some x => nodeW (walkF ns f) i x
section
variable {ns : List GExprNode} {f : Nat} {i : Int} {j : Nat} {x : GExprNode} {rec : Int → W3}
theorem nodeW_1 (h : x.Op = 1) : nodeW rec i x = (i, 1, ((decide (x.A = 0) && decide (x.B = 0)) && decide (x.Column = 0)) && valueOK x.V) := by unfold nodeW; rw [if_pos h]
theorem nodeW_2 (h : ¬ x.Op = 1) (h1 : x.Op = 2) : nodeW rec i x = (i, 1, ((decide (x.A = 0) && decide (x.B = 0)) && inR x.Column 0 2) && zeroV x.V) := by unfold nodeW; rw [if_neg h, if_pos h1]
theorem nodeW_3 (h : ¬ x.Op = 1) (h1 : ¬ x.Op = 2) (h2 : inR x.Op 3 5 = true) : nodeW rec i x = ((rec (i - 1)).1, (rec (i - 1)).2.1 + 1, ((((rec (i - 1)).2.2 && decide (x.A = i - 1)) && decide (x.B = 0)) && decide (x.Column = 0)) && zeroV x.V) := by
  unfold nodeW; rw [if_neg h, if_neg h1, if_pos h2]
theorem nodeW_4 (h : ¬ x.Op = 1) (h1 : ¬ x.Op = 2) (h2 : inR x.Op 3 5 = false) (h3 : inR x.Op 6 13 = true) (h4 : (rec (i - 1)).2.2 = false) : nodeW rec i x = (0, 0, false) := by
  unfold nodeW; rw [if_neg h, if_neg h1, if_neg (by rw [h2]; simp), if_pos h3, if_pos h4]
theorem nodeW_5 (h : ¬ x.Op = 1) (h1 : ¬ x.Op = 2) (h2 : inR x.Op 3 5 = false) (h3 : inR x.Op 6 13 = true) (h4 : (rec (i - 1)).2.2 = true) : nodeW rec i x = ((rec ((rec (i - 1)).1 - 1)).1, mxI (rec ((rec (i - 1)).1 - 1)).2.1 (rec (i - 1)).2.1 + 1,
       ((((rec ((rec (i - 1)).1 - 1)).2.2 && decide (x.A = (rec (i - 1)).1 - 1)) && decide (x.B = i - 1)) && decide (x.Column = 0)) && zeroV x.V) := by
  unfold nodeW; rw [if_neg h, if_neg h1, if_neg (by rw [h2]; simp), if_pos h3, if_neg (by rw [h4]; simp)]
theorem nodeW_6 (h : ¬ x.Op = 1) (h1 : ¬ x.Op = 2) (h2 : inR x.Op 3 5 = false) (h3 : inR x.Op 6 13 = false) : nodeW rec i x = (0, 0, false) := by
  unfold nodeW; rw [if_neg h, if_neg h1, if_neg (by rw [h2]; simp), if_neg (by rw [h3]; simp)]
theorem walkF_neg (h : i < 0) : walkF ns f i = (0, 0, false) := by cases f with | zero => rfl | succ f => rw [walkF, if_pos h]
theorem walkF_at (h : j < ns.length) : walkF ns (f + 1) (j : Int) = nodeW (walkF ns f) j ns[j] := by
  rw [walkF, if_neg (by omega), show ((j : Int)).toNat = j from by omega, List.getElem?_eq_getElem h]
theorem nodeW_b {n : Int} (hi : 0 ≤ i) (h : ∀ k, 0 ≤ (rec k).1 ∧ ((rec k).1 ≤ k ∨ (rec k).1 = 0) ∧ 0 ≤ (rec k).2.1 ∧ (rec k).2.1 ≤ n) : 0 ≤ (nodeW rec i x).1 ∧ ((nodeW rec i x).1 ≤ i ∨ (nodeW rec i x).1 = 0) ∧ 0 ≤ (nodeW rec i x).2.1 ∧ (nodeW rec i x).2.1 ≤ n + 1 := by
  have a := h (i - 1)
  have b := h ((rec (i - 1)).1 - 1)
  have c := mxI_b (n := n) (a := (rec ((rec (i - 1)).1 - 1)).2.1) (b := (rec (i - 1)).2.1) ⟨b.2.2.1, b.2.2.2⟩ ⟨a.2.2.1, a.2.2.2⟩
  unfold nodeW
  split
  · dsimp only; omega
  · split
    · dsimp only; omega
    · split
      · dsimp only; omega
      · split
        · split
          · dsimp only; omega
          · dsimp only; omega
        · dsimp only; omega
theorem walkF_b : ∀ {f : Nat} {i : Int}, 0 ≤ (walkF ns f i).1 ∧ ((walkF ns f i).1 ≤ i ∨ (walkF ns f i).1 = 0) ∧ 0 ≤ (walkF ns f i).2.1 ∧ (walkF ns f i).2.1 ≤ f
  | 0, i => by simp [walkF]
  | f + 1, i => by
    rw [walkF]
    split
    · simp; omega
    · split
      · simp; omega
      · rename_i x _
        have := @nodeW_b i x (walkF ns f) f (by omega) (fun k => walkF_b)
        omega
end
def exprOK (e : GExpr) : Bool := if inR (e.Nodes.length : Int) 1 40 = false then false else
  ((walkF e.Nodes (e.Nodes.length + 1) ((e.Nodes.length : Int) - 1)).2.2 && decide ((walkF e.Nodes (e.Nodes.length + 1) ((e.Nodes.length : Int) - 1)).1 = 0)) && decide ((walkF e.Nodes (e.Nodes.length + 1) ((e.Nodes.length : Int) - 1)).2.1 ≤ 12)
theorem exprOK_0 {e : GExpr} (h : inR (e.Nodes.length : Int) 1 40 = false) : exprOK e = false := by unfold exprOK; rw [if_pos h]
theorem exprOK_1 {e : GExpr} (h : inR (e.Nodes.length : Int) 1 40 = true) : exprOK e = (((walkF e.Nodes (e.Nodes.length + 1) ((e.Nodes.length : Int) - 1)).2.2 && decide ((walkF e.Nodes (e.Nodes.length + 1) ((e.Nodes.length : Int) - 1)).1 = 0)) && decide ((walkF e.Nodes (e.Nodes.length + 1) ((e.Nodes.length : Int) - 1)).2.1 ≤ 12)) := by
  unfold exprOK; rw [if_neg (by rw [h]; simp)]
theorem inR_iff {n lo hi : Int} : inR n lo hi = true ↔ lo ≤ n ∧ n ≤ hi := by unfold inR; simp
end Go.AM

/- Plain laws: disks, what a crash keeps. -/
namespace Go.AM
def badAt (n : Nat) (p : GPending) : Bool := !inR p.At 0 ((n : Int) - 1) || decide (160 < (p.Data.length : Int))
def long160 (s : Str) : Bool := decide (160 < (s.length : Int))
def long64 (s : Str) : Bool := decide (65536 < (s.length : Int))
def badHead (d : GDisk) : Bool := ((!inR (d.Sectors.length : Int) 1 100 || decide (500 < (d.Cache.length : Int))) || decide (500 < (d.Keep.length : Int))) || (!d.Armed && decide (0 < (d.Keep.length : Int)))
def diskOK (d : GDisk) : Bool := !badHead d && (!d.Sectors.any long160 && !d.Cache.any (badAt d.Sectors.length))
theorem diskOK_head {d : GDisk} (h : diskOK d = true) : d.Sectors.length ≤ 100 ∧ d.Cache.length ≤ 500 ∧ d.Keep.length ≤ 500 := by
  unfold diskOK badHead inR at h
  simp only [Bool.and_eq_true, Bool.not_eq_true', Bool.or_eq_false_iff, decide_eq_false_iff_not, Bool.not_eq_false', decide_eq_true_eq] at h
  omega
theorem diskOK_at {d : GDisk} (h : diskOK d = true) : ∀ p ∈ d.Cache, 0 ≤ p.At ∧ p.At.toNat < d.Sectors.length := fun p hp => by
  unfold diskOK at h
  simp only [Bool.and_eq_true, Bool.not_eq_true'] at h
  have h1 : badAt d.Sectors.length p = false := by
    cases hh : badAt d.Sectors.length p with
    | false => rfl
    | true => exact absurd (List.any_eq_true.2 ⟨p, hp, hh⟩) (by rw [h.2.2]; simp)
  unfold badAt inR at h1
  simp only [Bool.or_eq_false_iff, Bool.not_eq_false', Bool.and_eq_true, decide_eq_true_eq] at h1
  omega
theorem getD_atI {l : List Int} {i : Nat} (h : i < l.length) : l.getD i 0 = l[i] := by simp [List.getD, h]
def putP (S : List Str) (p : GPending) : List Str := S.set p.At.toNat p.Data
def keepAt (keep : List Int) (k : Nat) : Bool := decide ((k : Int) < (keep.length : Int)) && !decide (keep.getD k 0 = 0)
def keptTo (S : List Str) (ps : List GPending) (keep : List Int) : Nat → List Str
  | 0 => S
  | k + 1 => match ps[k]? with
    | none => keptTo S ps keep k
    | some p => bif keepAt keep k then putP (keptTo S ps keep k) p else keptTo S ps keep k
theorem keptTo_len {S : List Str} {ps : List GPending} {keep : List Int} : ∀ {k : Nat}, (keptTo S ps keep k).length = S.length
  | 0 => rfl
  | k + 1 => by
    rw [keptTo]
    split
    · exact keptTo_len
    · cases keepAt keep k
      · exact keptTo_len
      · show (putP _ _).length = _
        unfold putP; rw [List.length_set]; exact keptTo_len
theorem keptTo_t {S : List Str} {ps : List GPending} {keep : List Int} {k : Nat} (hk : k < ps.length) (h : keepAt keep k = true) : keptTo S ps keep (k + 1) = (keptTo S ps keep k).set ps[k].At.toNat ps[k].Data := by
  rw [keptTo, List.getElem?_eq_getElem hk]; simp only [h, cond_true]; rfl
theorem keptTo_f {S : List Str} {ps : List GPending} {keep : List Int} {k : Nat} (hk : k < ps.length) (h : keepAt keep k = false) : keptTo S ps keep (k + 1) = keptTo S ps keep k := by
  rw [keptTo, List.getElem?_eq_getElem hk]; simp only [h, cond_false]
def syncTo (S : List Str) (ps : List GPending) (k : Nat) : List Str := (ps.take k).foldl putP S
theorem syncTo_len {S : List Str} {ps : List GPending} {k : Nat} : (syncTo S ps k).length = S.length := by
  unfold syncTo
  generalize ps.take k = l
  induction l generalizing S with
  | nil => rfl
  | cons p l ih => rw [List.foldl_cons, ih]; unfold putP; rw [List.length_set]
theorem syncTo_succ {S : List Str} {ps : List GPending} {k : Nat} (hk : k < ps.length) : syncTo S ps (k + 1) = (syncTo S ps k).set ps[k].At.toNat ps[k].Data := by
  unfold syncTo; rw [take_succ hk, List.foldl_append]; rfl
def crashD (d : GDisk) (keep : List Int) : GDisk := ⟨keptTo d.Sectors d.Cache keep d.Cache.length, [], false, []⟩
def syncD (d : GDisk) : GDisk × Bool := if d.Armed = true then (crashD d d.Keep, false) else (⟨syncTo d.Sectors d.Cache d.Cache.length, [], d.Armed, d.Keep⟩, true)
theorem syncD_1 {d : GDisk} (h : d.Armed = true) : syncD d = (crashD d d.Keep, false) := by unfold syncD; rw [if_pos h]
theorem syncD_2 {d : GDisk} (h : d.Armed = false) : syncD d = (⟨syncTo d.Sectors d.Cache d.Cache.length, [], d.Armed, d.Keep⟩, true) := by unfold syncD; rw [if_neg (by rw [h]; simp)]
def armF (d : GDisk) (keep : List Int) : GDisk × Int := if 4096 < (keep.length : Int) then (.zero, 2) else if diskOK d = false then (.zero, 1) else if 500 < (keep.length : Int) then (.zero, 6) else (⟨d.Sectors, d.Cache, true, keep⟩, 0)
theorem armF_1 {d : GDisk} {keep : List Int} (h : 4096 < (keep.length : Int)) : armF d keep = (.zero, 2) := by unfold armF; rw [if_pos h]
theorem armF_2 {d : GDisk} {keep : List Int} (h : ¬ 4096 < (keep.length : Int)) (h1 : diskOK d = false) : armF d keep = (.zero, 1) := by unfold armF; rw [if_neg h, if_pos h1]
theorem armF_3 {d : GDisk} {keep : List Int} (h : ¬ 4096 < (keep.length : Int)) (h1 : diskOK d = true) (h2 : 500 < (keep.length : Int)) : armF d keep = (.zero, 6) := by unfold armF; rw [if_neg h, if_neg (by rw [h1]; simp), if_pos h2]
theorem armF_4 {d : GDisk} {keep : List Int} (h : ¬ 4096 < (keep.length : Int)) (h1 : diskOK d = true) (h2 : ¬ 500 < (keep.length : Int)) : armF d keep = (⟨d.Sectors, d.Cache, true, keep⟩, 0) := by unfold armF; rw [if_neg h, if_neg (by rw [h1]; simp), if_neg h2]
def crashF (d : GDisk) (keep : List Int) : GDisk × Int := if 4096 < (keep.length : Int) then (.zero, 2) else if diskOK d = false then (.zero, 1) else (crashD d keep, 0)
theorem crashF_1 {d : GDisk} {keep : List Int} (h : 4096 < (keep.length : Int)) : crashF d keep = (.zero, 2) := by unfold crashF; rw [if_pos h]
theorem crashF_2 {d : GDisk} {keep : List Int} (h : ¬ 4096 < (keep.length : Int)) (h1 : diskOK d = false) : crashF d keep = (.zero, 1) := by unfold crashF; rw [if_neg h, if_pos h1]
theorem crashF_3 {d : GDisk} {keep : List Int} (h : ¬ 4096 < (keep.length : Int)) (h1 : diskOK d = true) : crashF d keep = (crashD d keep, 0) := by unfold crashF; rw [if_neg h, if_neg (by rw [h1]; simp)]
def syncF (d : GDisk) : GDisk × Bool × Int := if diskOK d = false then (.zero, false, 1) else ((syncD d).1, (syncD d).2, 0)
theorem syncF_1 {d : GDisk} (h1 : diskOK d = false) : syncF d = (.zero, false, 1) := by unfold syncF; rw [if_pos h1]
theorem syncF_2 {d : GDisk} (h1 : diskOK d = true) : syncF d = ((syncD d).1, (syncD d).2, 0) := by unfold syncF; rw [if_neg (by rw [h1]; simp)]
def wrD (d : GDisk) (a : Int) (x : Str) : GDisk := ⟨d.Sectors, d.Cache ++ [⟨a, x⟩], d.Armed, d.Keep⟩
def badW (d : GDisk) (a : Int) (x : Str) : Bool := !inR a 0 ((d.Sectors.length : Int) - 1) || decide (160 < (x.length : Int))
def writeF (d : GDisk) (a : Int) (x : Str) : GDisk × Int := if 65536 < (x.length : Int) then (.zero, 2) else if diskOK d = false then (.zero, 1) else if badW d a x = true then (.zero, 4) else if (d.Cache.length : Int) = 500 then (d, 7) else (wrD d a x, 0)
section
variable {d : GDisk} {a : Int} {x : Str}
theorem writeF_1 (h : 65536 < (x.length : Int)) : writeF d a x = (.zero, 2) := by unfold writeF; rw [if_pos h]
theorem writeF_2 (h : ¬ 65536 < (x.length : Int)) (h1 : diskOK d = false) : writeF d a x = (.zero, 1) := by unfold writeF; rw [if_neg h, if_pos h1]
theorem writeF_3 (h : ¬ 65536 < (x.length : Int)) (h1 : diskOK d = true) (h2 : badW d a x = true) : writeF d a x = (.zero, 4) := by unfold writeF; rw [if_neg h, if_neg (by rw [h1]; simp), if_pos h2]
theorem writeF_4 (h : ¬ 65536 < (x.length : Int)) (h1 : diskOK d = true) (h2 : badW d a x = false) (h3 : (d.Cache.length : Int) = 500) : writeF d a x = (d, 7) := by unfold writeF; rw [if_neg h, if_neg (by rw [h1]; simp), if_neg (by rw [h2]; simp), if_pos h3]
theorem writeF_5 (h : ¬ 65536 < (x.length : Int)) (h1 : diskOK d = true) (h2 : badW d a x = false) (h3 : ¬ (d.Cache.length : Int) = 500) : writeF d a x = (wrD d a x, 0) := by unfold writeF; rw [if_neg h, if_neg (by rw [h1]; simp), if_neg (by rw [h2]; simp), if_neg h3]
end
theorem armF_len {d : GDisk} {keep : List Int} : (armF d keep).1.Sectors.length ≤ d.Sectors.length ∧ (armF d keep).1.Cache.length ≤ d.Cache.length ∧ (armF d keep).1.Keep.length ≤ keep.length := by
  unfold armF; split
  · simp [GDisk.zero]
  · split
    · simp [GDisk.zero]
    · split
      · simp [GDisk.zero]
      · simp
theorem crashD_len {d : GDisk} {keep : List Int} : (crashD d keep).Sectors.length = d.Sectors.length := keptTo_len
theorem crashF_len {d : GDisk} {keep : List Int} : (crashF d keep).1.Sectors.length ≤ d.Sectors.length ∧ (crashF d keep).1.Cache.length = 0 ∧ (crashF d keep).1.Keep.length = 0 := by
  unfold crashF; split
  · simp [GDisk.zero]
  · split
    · simp [GDisk.zero]
    · exact ⟨by show (crashD d keep).Sectors.length ≤ _; rw [crashD_len]; exact Nat.le_refl _, rfl, rfl⟩
theorem syncF_len {d : GDisk} : (syncF d).1.Sectors.length ≤ d.Sectors.length ∧ (syncF d).1.Cache.length = 0 ∧ (syncF d).1.Keep.length ≤ d.Keep.length := by
  unfold syncF; split
  · simp [GDisk.zero]
  · show (syncD d).1.Sectors.length ≤ _ ∧ (syncD d).1.Cache.length = 0 ∧ (syncD d).1.Keep.length ≤ _
    unfold syncD; split
    · exact ⟨by show (crashD d _).Sectors.length ≤ _; rw [crashD_len]; exact Nat.le_refl _, rfl, Nat.zero_le _⟩
    · exact ⟨by show (syncTo _ _ _).length ≤ _; rw [syncTo_len]; exact Nat.le_refl _, rfl, Nat.le_refl _⟩
theorem writeF_len {d : GDisk} {a : Int} {x : Str} : (writeF d a x).1.Sectors.length ≤ d.Sectors.length ∧ (writeF d a x).1.Cache.length ≤ d.Cache.length + 1 ∧ (writeF d a x).1.Keep.length ≤ d.Keep.length := by
  unfold writeF; split
  · simp [GDisk.zero]
  · split
    · simp [GDisk.zero]
    · split
      · simp [GDisk.zero]
      · split
        · simp
        · simp [wrD]
abbrev GDisk.pO (e e0 e1 e2 : Nat) (x : GDisk) : List (Nat × OB) := (e, .box [.osl e0 1 0 x.Sectors.length, .osl e1 2 0 x.Cache.length, .d (.bool x.Armed), .osl e2 1 0 x.Keep.length]) :: x.hO e0 e1 e2
end Go.AM

/- Plain laws: disks that are right, what is read of them, drawn ones. -/
namespace Go.AM
structure DOK (d : GDisk) : Prop where
  s0 : 1 ≤ d.Sectors.length
  s1 : d.Sectors.length ≤ 100
  c1 : d.Cache.length ≤ 500
  k1 : d.Keep.length ≤ 500
  ka : d.Armed = false → d.Keep = []
  st : ∀ t ∈ d.Sectors, t.length ≤ 160
  ct : ∀ p ∈ d.Cache, 0 ≤ p.At ∧ p.At < (d.Sectors.length : Int) ∧ p.Data.length ≤ 160
theorem DOK.ok {d : GDisk} (h : DOK d) : diskOK d = true := by
  have h0 := h.s0; have h1 := h.s1; have h2 := h.c1; have h3 := h.k1
  unfold diskOK
  have e1 : badHead d = false := by
    unfold badHead inR
    cases ha : d.Armed with
    | false => rw [h.ka ha]; simp; omega
    | true => simp; omega
  have e2 : d.Sectors.any long160 = false := by
    rw [List.any_eq_false]; intro t ht; have := h.st t ht; unfold long160; simp; omega
  have e3 : d.Cache.any (badAt d.Sectors.length) = false := by
    rw [List.any_eq_false]; intro p hp; have := h.ct p hp; unfold badAt inR; simp; omega
  rw [e1, e2, e3]; rfl
theorem newD_ok {n : Nat} (h : 1 ≤ n ∧ n ≤ 100) : DOK ⟨List.replicate n [], [], false, []⟩ :=
  ⟨by simp; omega, by simp; omega, Nat.zero_le _, Nat.zero_le _, fun _ => rfl, fun t ht => by rw [(List.mem_replicate.1 ht).2]; exact Nat.zero_le _, fun p hp => by cases hp⟩
theorem armD_ok {d : GDisk} {keep : List Int} (h : DOK d) (hk : keep.length ≤ 500) : DOK ⟨d.Sectors, d.Cache, true, keep⟩ :=
  ⟨h.s0, h.s1, h.c1, hk, fun h => (by cases h), h.st, h.ct⟩
theorem wrD_ok {d : GDisk} {a : Int} {x : Str} (h : DOK d) (ha : 0 ≤ a ∧ a < (d.Sectors.length : Int)) (hx : x.length ≤ 160) (hc : d.Cache.length < 500) : DOK (wrD d a x) :=
  ⟨h.s0, h.s1, by show (d.Cache ++ _).length ≤ _; simp; omega, h.k1, h.ka, h.st, fun p hp => by
    rcases List.mem_append.1 hp with q | q
    · exact h.ct p q
    · rw [List.mem_singleton] at q; subst q; exact ⟨ha.1, ha.2, hx⟩⟩
theorem putP_st {S : List Str} {p : GPending} (hs : ∀ t ∈ S, t.length ≤ 160) (hp : p.Data.length ≤ 160) : ∀ t ∈ putP S p, t.length ≤ 160 := fun t ht => by
  unfold putP at ht
  rcases List.mem_or_eq_of_mem_set ht with q | q
  · exact hs t q
  · rw [q]; exact hp
theorem keptTo_st {S : List Str} {C : List GPending} {keep : List Int} (hs : ∀ t ∈ S, t.length ≤ 160) (hc : ∀ p ∈ C, p.Data.length ≤ 160) : ∀ k, ∀ t ∈ keptTo S C keep k, t.length ≤ 160
  | 0 => hs
  | k + 1 => by
    rw [keptTo]
    split
    · exact keptTo_st hs hc k
    · rename_i p hp
      cases keepAt keep k with
      | false => exact keptTo_st hs hc k
      | true => exact putP_st (keptTo_st hs hc k) (hc p (List.mem_of_getElem? hp))
theorem syncTo_st {S : List Str} {C : List GPending} (hs : ∀ t ∈ S, t.length ≤ 160) (hc : ∀ p ∈ C, p.Data.length ≤ 160) (k : Nat) : ∀ t ∈ syncTo S C k, t.length ≤ 160 := by
  unfold syncTo
  have hc2 : ∀ p ∈ C.take k, p.Data.length ≤ 160 := fun p hp => hc p (List.mem_of_mem_take hp)
  generalize C.take k = l at hc2
  induction l generalizing S with
  | nil => exact hs
  | cons p l ih => rw [List.foldl_cons]; exact ih (putP_st hs (hc2 p (List.mem_cons_self ..))) (fun q hq => hc2 q (List.mem_cons_of_mem _ hq))
theorem crashD_ok {d : GDisk} {keep : List Int} (h : DOK d) : DOK (crashD d keep) :=
  ⟨by rw [crashD_len]; exact h.s0, by rw [crashD_len]; exact h.s1, Nat.zero_le _, Nat.zero_le _, fun _ => rfl, keptTo_st h.st (fun p hp => (h.ct p hp).2.2) _, fun p hp => by cases hp⟩
theorem syncD_ok {d : GDisk} (h : DOK d) : DOK (syncD d).1 := by
  unfold syncD; split
  · exact crashD_ok h
  · exact ⟨by show 1 ≤ (syncTo _ _ _).length; rw [syncTo_len]; exact h.s0, by show (syncTo _ _ _).length ≤ _; rw [syncTo_len]; exact h.s1, Nat.zero_le _, h.k1, h.ka, syncTo_st h.st (fun p hp => (h.ct p hp).2.2) _, fun p hp => by cases hp⟩
/-- A drawn disk, of at most 'm' writes. -/
structure DD (d : GDisk) (m : Nat) : Prop where
  ok : DOK d
  s9 : d.Sectors.length ≤ 9
  cm : d.Cache.length ≤ m
  km : d.Keep.length ≤ 11
theorem DD.w0 {d : GDisk} {m : Nat} (h : DD d m) : d.Sectors.length ≤ 1048576 := by have := h.s9; omega
theorem DD.w1 {d : GDisk} {m : Nat} (h : DD d m) (hm : m ≤ 100) : d.Cache.length ≤ 1048576 := by have := h.cm; omega
theorem DD.w2 {d : GDisk} {m : Nat} (h : DD d m) : d.Keep.length ≤ 1048576 := by have := h.km; omega
theorem DD.mono {d : GDisk} {m n : Nat} (h : DD d m) (hm : m ≤ n) : DD d n := ⟨h.ok, h.s9, Nat.le_trans h.cm hm, h.km⟩
theorem newD_dd {n : Nat} (h : 1 ≤ n ∧ n ≤ 9) : DD ⟨List.replicate n [], [], false, []⟩ 0 := ⟨newD_ok (by omega), by simp; omega, Nat.le_refl _, Nat.zero_le _⟩
theorem syncD_len {d : GDisk} : (syncD d).1.Sectors.length = d.Sectors.length ∧ (syncD d).1.Cache.length = 0 ∧ (syncD d).1.Keep.length ≤ d.Keep.length := by
  unfold syncD; split
  · exact ⟨crashD_len, rfl, Nat.zero_le _⟩
  · exact ⟨syncTo_len, rfl, Nat.le_refl _⟩
theorem syncD_dd {d : GDisk} {m : Nat} (h : DD d m) : DD (syncD d).1 m := by
  obtain ⟨h1, h2, h3⟩ := @syncD_len d
  exact ⟨syncD_ok h.ok, by rw [h1]; exact h.s9, by omega, by have := h.km; omega⟩
theorem armD_dd {d : GDisk} {m : Nat} {keep : List Int} (h : DD d m) (hk : keep.length ≤ 11) : DD ⟨d.Sectors, d.Cache, true, keep⟩ m := ⟨armD_ok h.ok (by omega), h.s9, h.cm, hk⟩
theorem wrD_dd {d : GDisk} {m : Nat} {a : Int} {x : Str} (h : DD d m) (ha : 0 ≤ a ∧ a < (d.Sectors.length : Int)) (hx : x.length ≤ 160) (hm : m < 100) : DD (wrD d a x) (m + 1) :=
  ⟨wrD_ok h.ok ha hx (by have := h.cm; omega), h.s9, by show (d.Cache ++ _).length ≤ _; have := h.cm; simp; omega, h.km⟩
theorem armF_ok {d : GDisk} {keep : List Int} (h : DOK d) (hk : keep.length ≤ 500) : armF d keep = (⟨d.Sectors, d.Cache, true, keep⟩, 0) := armF_4 (by omega) h.ok (by omega)
theorem crashF_ok {d : GDisk} {keep : List Int} (h : DOK d) (hk : keep.length ≤ 500) : crashF d keep = (crashD d keep, 0) := crashF_3 (by omega) h.ok
theorem syncF_ok {d : GDisk} (h : DOK d) : syncF d = ((syncD d).1, (syncD d).2, 0) := syncF_2 h.ok
def newF (n : Int) : List Str × Int := if inR n 1 100 = false then ([], 4) else (List.replicate n.toNat [], 0)
/-- What a sector tells: what was written last. -/
def lastW (C : List GPending) (i : Int) (t : Str) : Str := C.foldl (fun t p => if p.At = i then p.Data else t) t
theorem lastW_app {C : List GPending} {p : GPending} {i : Int} {t : Str} : lastW (C ++ [p]) i t = if p.At = i then p.Data else lastW C i t := by
  unfold lastW; rw [List.foldl_append]; rfl
theorem lastW_no {C : List GPending} {i : Int} {t : Str} {k : Nat} (hk : k < C.length) (h : C[k].At ≠ i) : lastW (C.take (k + 1)) i t = lastW (C.take k) i t := by
  rw [take_succ hk, lastW_app, if_neg h]
theorem lastW_yes {C : List GPending} {i : Int} {t : Str} {k : Nat} (hk : k < C.length) (h : C[k].At = i) : lastW (C.take (k + 1)) i t = C[k].Data := by
  rw [take_succ hk, lastW_app, if_pos h]
theorem putP_get {S : List Str} {p : GPending} {i : Nat} (hi : i < S.length) (hp : 0 ≤ p.At) : (putP S p).getD i [] = if p.At = (i : Int) then p.Data else S.getD i [] := by
  unfold putP
  split
  · rename_i h
    rw [show p.At.toNat = i from by omega]
    simp [List.getD, hi]
  · rename_i h
    rw [List.getD_eq_getElem?_getD, List.getElem?_set_ne (by omega), List.getD_eq_getElem?_getD]
theorem syncTo_get {S : List Str} {C : List GPending} {i : Nat} (hi : i < S.length) (hC : ∀ p ∈ C, 0 ≤ p.At) : ∀ k, k ≤ C.length → (syncTo S C k).getD i [] = lastW (C.take k) i (S.getD i [])
  | 0, _ => rfl
  | k + 1, hk => by
    have e : syncTo S C (k + 1) = putP (syncTo S C k) C[k] := syncTo_succ (by omega)
    rw [e, putP_get (by rw [syncTo_len]; exact hi) (hC _ (List.getElem_mem (by omega))), syncTo_get hi hC k (by omega), take_succ (by omega), lastW_app]
theorem keptTo_get {S : List Str} {C : List GPending} {keep : List Int} {i : Nat} (hi : i < S.length) (hC : ∀ p ∈ C, 0 ≤ p.At) : ∀ k, k ≤ C.length → (keptTo S C keep k).getD i [] = S.getD i [] ∨ ∃ p ∈ C, p.At = (i : Int) ∧ (keptTo S C keep k).getD i [] = p.Data
  | 0, _ => .inl rfl
  | k + 1, hk => by
    cases hh : keepAt keep k with
    | false => rw [keptTo_f (by omega) hh]; exact keptTo_get hi hC k (by omega)
    | true =>
      have e : keptTo S C keep (k + 1) = putP (keptTo S C keep k) C[k] := keptTo_t (by omega) hh
      rw [e, putP_get (by rw [keptTo_len]; exact hi) (hC _ (List.getElem_mem (by omega)))]
      split
      · rename_i h
        exact .inr ⟨_, List.getElem_mem (by omega), h, rfl⟩
      · exact keptTo_get hi hC k (by omega)
/-- What is kept, drawn. -/
def keepsL : Nat → Src → List Int → List Int × Src
  | 0, s, l => (l, s)
  | n + 1, s, l => keepsL n (nextF s 2).2 (l ++ [(nextF s 2).1])
def keepsF (s : Src) : List Int × Src := keepsL (nextF s 12).1.toNat (nextF s 12).2 []
theorem keepsL_ok : ∀ {m : Nat} {s : Src} {l : List Int} {k : Nat}, s.ok (k + 3 * m) → (keepsL m s l).2.ok k ∧ (keepsL m s l).1.length = l.length + m
  | 0, _, _, _, h => ⟨h, rfl⟩
  | m + 1, s, l, k, h => by
    obtain ⟨h1, h2⟩ := keepsL_ok (m := m) (l := l ++ [(nextF s 2).1]) (k := k) (nextF_ok (s := s) (n := 2) (k := k + 3 * m) (h.mono (by omega))).1
    exact ⟨h1, by rw [keepsL, h2]; simp; omega⟩
theorem keepsF_ok {s : Src} {k : Nat} (h : s.ok (k + 36)) : (keepsF s).2.ok k ∧ (keepsF s).1.length ≤ 11 := by
  obtain ⟨h1, h2, h3⟩ := nextF_ok (s := s) (n := 12) (k := k + 33) h
  have h3 := h3 (by omega)
  obtain ⟨h4, h5⟩ := keepsL_ok (m := (nextF s 12).1.toNat) (l := []) (k := k) (h1.mono (by omega))
  exact ⟨h4, by unfold keepsF; rw [h5, List.length_nil]; omega⟩
def newDk (n : Int) : GDisk := ⟨List.replicate n.toNat [], [], false, []⟩
theorem newDk_len {n : Int} : (newDk n).Sectors.length = n.toNat := by simp [newDk]
theorem newDk_rows {n : Int} : (newDk n).Sectors.map strRow = List.replicate n.toNat [D.str []] := by simp [newDk]; exact .inr rfl
theorem newDk_dd {n : Int} (h : 1 ≤ n ∧ n ≤ 9) : DD (newDk n) 0 := newD_dd (by omega)
noncomputable def difD (x y : GDisk) : Bool := ((!eqb x.Sectors y.Sectors || !decide ((x.Cache.length : Int) = y.Cache.length)) || !(x.Armed == y.Armed)) || !eqb x.Keep y.Keep
theorem difD_no {x y : GDisk} (h : difD x y = false) : x.Sectors = y.Sectors ∧ x.Cache.length = y.Cache.length ∧ x.Armed = y.Armed ∧ x.Keep = y.Keep := by
  unfold difD at h
  simp only [Bool.or_eq_false_iff, Bool.not_eq_false', beq_iff_eq, decide_eq_true_eq] at h
  obtain ⟨⟨⟨h1, h2⟩, h3⟩, h4⟩ := h
  exact ⟨eqb_iff.1 h1, by omega, h3, eqb_iff.1 h4⟩
theorem difD_ne {x y : GDisk} (h : difD x y = true) : x ≠ y := fun e => by
  subst e; unfold difD at h; rw [eqb_rfl, eqb_rfl] at h; simp at h
theorem syncF_arm {d : GDisk} {keep : List Int} (h : DOK d) (hk : keep.length ≤ 500) : syncF ⟨d.Sectors, d.Cache, true, keep⟩ = (crashD d keep, false, 0) := by
  rw [syncF_ok (armD_ok h hk), syncD_1 rfl]; rfl
theorem dTexts_len : ∀ {t : Str}, t ∈ [[], [111, 110, 101], [116, 119, 111]] → t.length ≤ 160 := fun {t} h => by
  simp at h; rcases h with rfl | rfl | rfl <;> simp
def dTexts : List Str := [[], [111, 110, 101], [116, 119, 111]]
end Go.AM

/- Plain laws: the sum of bytes, numbers in bytes. -/
namespace Go.AM
theorem wr_u32 {n : Int} (h : 0 ≤ n) (h2 : n < 4294967296) : wr .u32 n = n := by
  unfold wr; simp [IntKind.wrap, IntKind.bits, IntKind.signed]; omega
theorem wr_u64 {n : Int} (h : 0 ≤ n) (h2 : n < 18446744073709551616) : wr .u64 n = n := by
  unfold wr; simp [IntKind.wrap, IntKind.bits, IntKind.signed]; omega
theorem bvI {w a : Nat} (h : a < 2 ^ w) : (BitVec.ofInt w (a : Int)).toNat = a := by
  rw [BitVec.toNat_ofInt]
  have : ((a : Int) % ((2 ^ w : Nat) : Int)) = a := Int.emod_eq_of_lt (by omega) (by omega)
  rw [this]; rfl
theorem x32 {a b : Nat} (ha : a < 4294967296) (hb : b < 4294967296) : wr .u32 ((BitVec.ofInt IntKind.u32.bits (a : Int) ^^^ BitVec.ofInt IntKind.u32.bits (b : Int)).toNat) = ((a ^^^ b : Nat) : Int) := by
  have h : a ^^^ b < 2 ^ 32 := Nat.xor_lt_two_pow ha hb
  rw [BitVec.toNat_xor, bvI (w := IntKind.u32.bits) (show a < 2 ^ 32 from ha), bvI (w := IntKind.u32.bits) (show b < 2 ^ 32 from hb)]
  exact wr_u32 (by omega) (by omega)
theorem x64 {a b : Nat} (ha : a < 4294967296) (hb : b < 4294967296) : wr .i64 ((BitVec.ofInt IntKind.i64.bits (a : Int) ^^^ BitVec.ofInt IntKind.i64.bits (b : Int)).toNat) = ((a ^^^ b : Nat) : Int) := by
  have h : a ^^^ b < 2 ^ 32 := Nat.xor_lt_two_pow ha hb
  rw [BitVec.toNat_xor, bvI (w := IntKind.i64.bits) (show a < 2 ^ 64 by omega), bvI (w := IntKind.i64.bits) (show b < 2 ^ 64 by omega)]
  exact wr_ok (by omega) (by omega)
theorem a32 {a : Nat} (ha : a < 4294967296) : wr .u32 ((BitVec.ofInt IntKind.u32.bits (a : Int) &&& BitVec.ofInt IntKind.u32.bits 1).toNat) = ((a % 2 : Nat) : Int) := by
  rw [BitVec.toNat_and, bvI (w := IntKind.u32.bits) (show a < 2 ^ 32 from ha), show (1 : Int) = ((1 : Nat) : Int) from rfl, bvI (show 1 < 2 ^ IntKind.u32.bits by decide), Nat.and_one_is_mod]
  exact wr_u32 (by omega) (by omega)
theorem a64 {a : Nat} (ha : a < 4294967296) : wr .i64 ((BitVec.ofInt IntKind.i64.bits (a : Int) &&& BitVec.ofInt IntKind.i64.bits 1).toNat) = ((a % 2 : Nat) : Int) := by
  rw [BitVec.toNat_and, bvI (w := IntKind.i64.bits) (show a < 2 ^ 64 by omega), show (1 : Int) = ((1 : Nat) : Int) from rfl, bvI (show 1 < 2 ^ IntKind.i64.bits by decide), Nat.and_one_is_mod]
  exact wr_ok (by omega) (by omega)
theorem sh1 {a : Nat} : (a : Int).fdiv 2 = ((a / 2 : Nat) : Int) := by
  rw [Int.fdiv_eq_ediv_of_nonneg _ (by omega)]; omega
/-- One bit, so many bits, bytes. -/
def bit1 (s : Nat) : Nat := if s % 2 = 1 then (s / 2) ^^^ 3988292384 else s / 2
def bitsN : Nat → Nat → Nat
  | 0, s => s
  | k + 1, s => bit1 (bitsN k s)
def crcS (l : Str) : Nat := l.foldl (fun s c => bitsN 8 (s ^^^ c.toNat)) 4294967295
def crcN (l : Str) : Nat := crcS l ^^^ 4294967295
theorem bit1_lt {s : Nat} (h : s < 4294967296) : bit1 s < 4294967296 := by
  unfold bit1; split
  · exact Nat.xor_lt_two_pow (n := 32) (by omega) (by omega)
  · omega
theorem bit1_t {s : Nat} (h : s % 2 = 1) : bit1 s = (s / 2) ^^^ 3988292384 := by unfold bit1; rw [if_pos h]
theorem bit1_f {s : Nat} (h : ¬ s % 2 = 1) : bit1 s = s / 2 := by unfold bit1; rw [if_neg h]
theorem slc_drop {l : Str} {n : Nat} : AV.d (.sl 1 (((l.map byteRow).drop (n : Int).toNat).take (((l.map byteRow).length : Int).toNat - (n : Int).toNat))) = .d (.sl 1 ((l.drop n).map byteRow)) := by
  rw [Int.toNat_natCast, Int.toNat_natCast, List.take_of_length_le (by simp), List.map_drop]
theorem slc_take {l : Str} {a : Int} {n : Nat} (h : a.toNat = n) : AV.d (.sl 1 (((l.map byteRow).drop (0 : Int).toNat).take (a.toNat - (0 : Int).toNat))) = .d (.sl 1 ((l.take n).map byteRow)) := by
  rw [h]; simp [List.map_take]
theorem slc_drop2 {l : Str} {a : Int} {n : Nat} (h : a.toNat = n) : AV.d (.sl 1 (((l.map byteRow).drop a.toNat).take (((l.map byteRow).length : Int).toNat - a.toNat))) = .d (.sl 1 ((l.drop n).map byteRow)) := by
  rw [h, Int.toNat_natCast, List.take_of_length_le (by simp), List.map_drop]
theorem app_rows {x y : Str} : (x.map byteRow).take x.length ++ (((y.map byteRow).drop 0).take y.length) = (x ++ y).map byteRow := by
  rw [List.take_of_length_le (by simp), List.drop_zero, List.take_of_length_le (by simp), List.map_append]
theorem app_str {x y : Str} : (x.map byteRow).take x.length ++ y.map byteRow = (x ++ y).map byteRow := by
  rw [List.take_of_length_le (by simp), List.map_append]
theorem len_rows {y : Str} : (((y.map byteRow).drop 0).take y.length).length = y.length := by simp
theorem bitsN_lt {s : Nat} (h : s < 4294967296) : ∀ k, bitsN k s < 4294967296
  | 0 => h
  | k + 1 => bit1_lt (bitsN_lt h k)
theorem bit1_mul {s : Nat} : (s / 2) ^^^ (s % 2 * 3988292384) = bit1 s := by
  unfold bit1
  rcases Nat.mod_two_eq_zero_or_one s with h | h
  · rw [h, if_neg (by omega)]; simp
  · rw [h, if_pos rfl]
theorem bit1_x64 {s : Nat} (h : s < 4294967296) : wr .i64 ((BitVec.ofInt IntKind.i64.bits ((s / 2 : Nat) : Int) ^^^ BitVec.ofInt IntKind.i64.bits ((s % 2 * 3988292384 : Nat) : Int)).toNat) = ((bit1 s : Nat) : Int) := by
  rw [x64 (by omega) (Nat.lt_of_le_of_lt (Nat.mul_le_mul_right 3988292384 (show s % 2 ≤ 1 by omega)) (by decide)), bit1_mul]
theorem xb_lt {s : Nat} {c : UInt8} (h : s < 4294967296) : s ^^^ c.toNat < 4294967296 := Nat.xor_lt_two_pow (n := 32) h (by have := c.toNat_lt; omega)
theorem crcS_lt {l : Str} : crcS l < 4294967296 := by
  unfold crcS
  suffices h : ∀ (l : Str) (s : Nat), s < 4294967296 → l.foldl (fun s c => bitsN 8 (s ^^^ c.toNat)) s < 4294967296 from h l _ (by omega)
  intro l
  induction l with
  | nil => exact fun s h => h
  | cons c l ih => exact fun s h => ih _ (bitsN_lt (xb_lt h) 8)
theorem crcN_lt {l : Str} : crcN l < 4294967296 := Nat.xor_lt_two_pow (n := 32) crcS_lt (by omega)
theorem crcS_succ {l : Str} {k : Nat} (hk : k < l.length) : crcS (l.take (k + 1)) = bitsN 8 (crcS (l.take k) ^^^ l[k].toNat) := by
  rw [take_succ hk]; unfold crcS; rw [List.foldl_append]; rfl
def shB (n : Int) (s : Int) : UInt8 := byteOf (n.fdiv (2 ^ (min s.toNat 64)))
theorem shB_0 {n : Int} : shB n 0 = byteOf n := by
  show byteOf (n.fdiv 1) = _
  rw [Int.fdiv_one]
theorem shB_8 {n : Int} : shB n 8 = byteOf (n / 256) := by
  show byteOf (n.fdiv 256) = _
  rw [Int.fdiv_eq_ediv_of_nonneg _ (by omega)]
theorem shB_16 {n : Int} : shB n 16 = byteOf (n / 65536) := by
  show byteOf (n.fdiv 65536) = _
  rw [Int.fdiv_eq_ediv_of_nonneg _ (by omega)]
theorem shB_24 {n : Int} : shB n 24 = byteOf (n / 16777216) := by
  show byteOf (n.fdiv 16777216) = _
  rw [Int.fdiv_eq_ediv_of_nonneg _ (by omega)]
def fourB (n : Int) : Str := [shB n 24, shB n 16, shB n 8, byteOf n]
def twoB (n : Int) : Str := [shB n 8, byteOf n]
def numT (n : Int) (size : Nat) (k : Nat) : Str := (List.range k).map (fun j => shB n (8 * (((size - 1 - j : Nat)) : Int)))
theorem numT_len {n : Int} {size k : Nat} : (numT n size k).length = k := by simp [numT]
theorem numT_succ {n : Int} {size k : Nat} : numT n size (k + 1) = numT n size k ++ [shB n (8 * (((size - 1 - k : Nat)) : Int))] := by
  unfold numT; rw [List.range_succ, List.map_append]; rfl
theorem numT_4 {n : Int} : numT n 4 4 = fourB n := by
  unfold fourB; rw [← shB_0]; rfl
theorem numT_2 {n : Int} : numT n 2 2 = twoB n := by
  unfold twoB; rw [← shB_0]; rfl
def bigN (l : Str) : Nat := l.foldl (fun n c => n * 256 + c.toNat) 0
theorem bigN_lt : ∀ {l : Str}, bigN l < 256 ^ l.length := by
  suffices h : ∀ (l : Str) (n : Nat), l.foldl (fun n c => n * 256 + c.toNat) n + 1 ≤ (n + 1) * 256 ^ l.length from fun {l} => by have := h l 0; unfold bigN; omega
  intro l
  induction l with
  | nil => intro n; simp
  | cons c l ih =>
    intro n
    have := ih (n * 256 + c.toNat)
    have hc := c.toNat_lt
    rw [List.foldl_cons, List.length_cons, Nat.pow_succ]
    refine Nat.le_trans this ?_
    rw [Nat.mul_comm (256 ^ l.length) 256, ← Nat.mul_assoc]
    exact Nat.mul_le_mul_right _ (by omega)
theorem bigN_four {n : Nat} (h : n < 4294967296) : bigN (fourB n) = n := by
  unfold bigN fourB; rw [shB_24, shB_16, shB_8]; simp only [List.foldl_cons, List.foldl_nil]
  have h1 := byteOf_nat ((n : Int) / 16777216); have h2 := byteOf_nat ((n : Int) / 65536); have h3 := byteOf_nat ((n : Int) / 256); have h4 := byteOf_nat n
  omega
theorem bigN_two {n : Nat} (h : n < 65536) : bigN (twoB n) = n := by
  unfold bigN twoB; rw [shB_8]; simp only [List.foldl_cons, List.foldl_nil]
  have h3 := byteOf_nat ((n : Int) / 256); have h4 := byteOf_nat n
  omega
theorem bigN_succ {l : Str} {k : Nat} (hk : k < l.length) : bigN (l.take (k + 1)) = bigN (l.take k) * 256 + l[k].toNat := by
  rw [take_succ hk]; unfold bigN; rw [List.foldl_append]; rfl
theorem bigN_lt3 {l : Str} (h : l.length ≤ 4) {k : Nat} (hk : k < l.length) : bigN (l.take k) < 16777216 := by
  have h1 := @bigN_lt (l.take k)
  have h2 : (l.take k).length ≤ 3 := by rw [List.length_take]; omega
  exact Nat.lt_of_lt_of_le h1 (Nat.pow_le_pow_right (n := 256) (by omega) h2)
theorem orW {a : Nat} {c : UInt8} (h : a < 16777216) : wr .i64 ((BitVec.ofInt IntKind.i64.bits ((a * 256 : Nat) : Int) ||| BitVec.ofInt IntKind.i64.bits (c.toNat : Int)).toNat) = ((a * 256 + c.toNat : Nat) : Int) := by
  have hc := c.toNat_lt
  rw [BitVec.toNat_or, bvI (w := IntKind.i64.bits) (show a * 256 < 2 ^ 64 by omega), bvI (w := IntKind.i64.bits) (show c.toNat < 2 ^ 64 by omega), Nat.mul_comm a 256, show (256 : Nat) = 2 ^ 8 from rfl, ← Nat.two_pow_add_eq_or_of_lt (show c.toNat < 2 ^ 8 by omega) a]
  exact wr_ok (by omega) (by omega)
theorem shlW {a : Nat} (h : a < 16777216) : wr .i64 ((a : Int) * 2 ^ (min (8 : Int).toNat IntKind.i64.bits)) = ((a * 256 : Nat) : Int) := by
  rw [wr_ok (by show _ ≤ (a : Int) * 256; omega) (by show (a : Int) * 256 ≤ _; omega)]
  show (a : Int) * 256 = _
  omega
def sealB (l : Str) : Str := l ++ fourB (crcN l)
/-- The bytes that are sealed, if they are. -/
def unsealF (l : Str) : Str × Bool := if (l.length : Int) - 4 < 0 ∨ ¬ (crcN (l.take (l.length - 4)) : Int) = bigN (l.drop (l.length - 4)) then ([], false) else (l.take (l.length - 4), true)
theorem unseal_1 {l : Str} (h : (l.length : Int) - 4 < 0 ∨ ¬ (crcN (l.take (l.length - 4)) : Int) = bigN (l.drop (l.length - 4))) : unsealF l = ([], false) := by unfold unsealF; rw [if_pos h]
theorem unseal_2 {l : Str} (h : ¬ ((l.length : Int) - 4 < 0 ∨ ¬ (crcN (l.take (l.length - 4)) : Int) = bigN (l.drop (l.length - 4)))) : unsealF l = (l.take (l.length - 4), true) := by unfold unsealF; rw [if_neg h]
theorem seal_len {l : Str} : (sealB l).length = l.length + 4 := by unfold sealB fourB; simp
theorem unseal_seal {l : Str} : unsealF (sealB l) = (l, true) := by
  have e : (sealB l).length - 4 = l.length := by rw [seal_len]; omega
  have e1 : (sealB l).take l.length = l := by unfold sealB; simp
  have e2 : (sealB l).drop l.length = fourB (crcN l) := by unfold sealB; simp
  have := @unseal_2 (sealB l) (by rw [e, e1, e2, bigN_four crcN_lt, seal_len]; omega)
  rw [this, e, e1]
theorem unseal_len {l : Str} : (unsealF l).1.length ≤ l.length := by
  unfold unsealF; split
  · exact Nat.zero_le _
  · simp
/-- Fields, put behind bytes. -/
def fieldB (t : Str) : Str := byteOf t.length :: t
def putK (b : Str) (ts : List Str) (k : Nat) : Str := (b ++ [byteOf ts.length]) ++ (ts.take k).flatMap fieldB
def putFs (b : Str) (ts : List Str) : Str := putK b ts ts.length
theorem putK_0 {b : Str} {ts : List Str} : putK b ts 0 = b ++ [byteOf ts.length] := by unfold putK; simp
theorem fm_succ {ts : List Str} {k : Nat} (hk : k < ts.length) : (ts.take (k + 1)).flatMap fieldB = (ts.take k).flatMap fieldB ++ (byteOf ts[k].length :: ts[k]) := by
  rw [take_succ hk, List.flatMap_append]; simp only [List.flatMap_cons, List.flatMap_nil, List.append_nil]; rfl
theorem putK_succ {b : Str} {ts : List Str} {k : Nat} (hk : k < ts.length) : putK b ts (k + 1) = (putK b ts k ++ [byteOf ts[k].length]) ++ ts[k] := by
  unfold putK; rw [fm_succ hk]; simp only [List.append_assoc, List.cons_append, List.nil_append]
def lenK (ts : List Str) (k : Nat) : Nat := ((ts.take k).flatMap fieldB).length
theorem putK_len {b : Str} {ts : List Str} {k : Nat} : (putK b ts k).length = b.length + 1 + lenK ts k := by unfold putK lenK; simp only [List.length_append, List.length_cons, List.length_nil]
theorem lenK_le {ts : List Str} {m : Nat} (h : ∀ t ∈ ts, t.length ≤ m) : ∀ k, lenK ts k ≤ (m + 1) * k
  | 0 => by simp [lenK]
  | k + 1 => by
    have ih := lenK_le h k
    rw [Nat.mul_succ]
    rcases Nat.lt_or_ge k ts.length with hk | hk
    · have := h _ (List.getElem_mem hk)
      unfold lenK at ih ⊢
      rw [fm_succ hk, List.length_append, List.length_cons]; omega
    · unfold lenK at ih ⊢
      rw [List.take_of_length_le (by omega)] at ih ⊢; omega
/-- Who takes bytes. -/
structure Rd where
  rest : Str
  fail : Bool
abbrev Rd.box (r : Rd) : OB := .box [.d (.sl 1 (r.rest.map byteRow)), .d (.bool r.fail)]
def takeF (r : Rd) (n : Nat) : Str × Rd := if (r.rest.length : Int) < (n : Int) then (List.replicate n 0, ⟨r.rest, true⟩) else (r.rest.take n, ⟨r.rest.drop n, r.fail⟩)
theorem takeF_1 {r : Rd} {n : Nat} (h : (r.rest.length : Int) < (n : Int)) : takeF r n = (List.replicate n 0, ⟨r.rest, true⟩) := by unfold takeF; rw [if_pos h]
theorem takeF_2 {r : Rd} {n : Nat} (h : ¬ (r.rest.length : Int) < (n : Int)) : takeF r n = (r.rest.take n, ⟨r.rest.drop n, r.fail⟩) := by unfold takeF; rw [if_neg h]
theorem takeF_len {r : Rd} {n : Nat} : (takeF r n).1.length = n ∧ (takeF r n).2.rest.length ≤ r.rest.length := by
  unfold takeF; split
  · exact ⟨by simp, Nat.le_refl _⟩
  · exact ⟨by simp; omega, by simp⟩
def numF (r : Rd) : Nat × Rd := (((takeF r 1).1.getD 0 0).toNat, (takeF r 1).2)
theorem numF_lt {r : Rd} : (numF r).1 < 256 ∧ (numF r).2.rest.length ≤ r.rest.length := ⟨(((takeF r 1).1.getD 0 0)).toNat_lt, takeF_len.2⟩
def fldL : Nat → Rd → List Str → List Str × Rd
  | 0, r, l => (l, r)
  | n + 1, r, l => fldL n (takeF (numF r).2 (numF r).1).2 (l ++ [(takeF (numF r).2 (numF r).1).1])
def fieldsF (r : Rd) : List Str × Rd := fldL (numF r).1 (numF r).2 []
theorem fldL_len : ∀ {n : Nat} {r : Rd} {l : List Str}, (fldL n r l).1.length = l.length + n ∧ (fldL n r l).2.rest.length ≤ r.rest.length
  | 0, r, l => ⟨rfl, Nat.le_refl _⟩
  | n + 1, r, l => by
    obtain ⟨h1, h2⟩ := @fldL_len n (takeF (numF r).2 (numF r).1).2 (l ++ [(takeF (numF r).2 (numF r).1).1])
    have h3 := @takeF_len (numF r).2 (numF r).1
    have h4 := @numF_lt r
    exact ⟨by rw [fldL, h1]; simp; omega, by rw [fldL]; omega⟩
theorem fields_len {r : Rd} : (fieldsF r).1.length ≤ 255 ∧ (fieldsF r).2.rest.length ≤ r.rest.length := by
  obtain ⟨h1, h2⟩ := @fldL_len (numF r).1 (numF r).2 []
  have := @numF_lt r
  unfold fieldsF
  exact ⟨by rw [h1, List.length_nil]; omega, by omega⟩
def doneF (r : Rd) : Bool := !r.fail && decide ((r.rest.length : Int) = 0)
theorem byteOf_len {t : Str} (h : t.length ≤ 255) : (byteOf t.length).toNat = t.length := by have := byteOf_nat t.length; omega
theorem numF_cons {c : UInt8} {b : Str} : numF ⟨c :: b, false⟩ = (c.toNat, ⟨b, false⟩) := by
  unfold numF; rw [takeF_2 (by simp; omega)]; simp
theorem fldL_put : ∀ {ts : List Str} {l : List Str} {b : Str}, (∀ t ∈ ts, t.length ≤ 255) → fldL ts.length ⟨ts.flatMap fieldB ++ b, false⟩ l = (l ++ ts, ⟨b, false⟩)
  | [], l, b, _ => by simp [fldL]
  | t :: ts, l, b, h => by
    have e : (t :: ts).flatMap fieldB ++ b = byteOf t.length :: (t ++ (ts.flatMap fieldB ++ b)) := by simp [fieldB]
    have ht := h t (List.mem_cons_self ..)
    rw [e, List.length_cons, fldL, numF_cons, byteOf_len ht]
    dsimp only
    rw [takeF_2 (by simp only [List.length_append]; omega)]
    dsimp only
    rw [List.take_left, List.drop_left, fldL_put (fun t ht => h t (List.mem_cons_of_mem _ ht))]
    simp
theorem fieldsF_put {ts : List Str} (hl : ts.length ≤ 255) (h : ∀ t ∈ ts, t.length ≤ 255) : fieldsF ⟨byteOf ts.length :: ts.flatMap fieldB, false⟩ = (ts, ⟨[], false⟩) := by
  have hb : (byteOf (ts.length : Int)).toNat = ts.length := by have := byteOf_nat ts.length; omega
  unfold fieldsF
  rw [numF_cons, hb]
  have := fldL_put (l := []) (b := []) h
  simpa using this
end Go.AM

/- Plain laws: pages, drawn pages, the bytes of pages. -/
namespace Go.AM
def pTexts : List Str := [[], [], [114, 101, 99], [114, 101, 99, 111, 114, 100], List.replicate 30 0]
theorem pTexts_len : ∀ t ∈ pTexts, t.length ≤ 30 := by decide +kernel
structure PG (p : Page) : Prop where
  ln : p.slots.length = 4
  st : ∀ t ∈ p.slots, t.length ≤ 30
  ls : 0 ≤ p.lsn ∧ p.lsn ≤ 1000
theorem PG.ok {p : Page} (h : PG p) : pageOK p = true := by
  unfold pageOK
  have h1 : inR p.lsn 0 1000 = true := inR_iff.2 h.ls
  have h2 : p.slots.any (fun s => decide (30 < s.length)) = false := by
    rw [List.any_eq_false]; intro t ht; have := h.st t ht; simp; omega
  rw [h1, h2, h.ln]; rfl
theorem PG.w {p : Page} (h : PG p) : p.slots.length ≤ 1048576 := by have := h.ln; omega
theorem set_st {l : List Str} {k m : Nat} {x : Str} (h : ∀ t ∈ l, t.length ≤ m) (hx : x.length ≤ m) : ∀ t ∈ l.set k x, t.length ≤ m := fun t ht => by
  rcases List.mem_or_eq_of_mem_set ht with q | q
  · exact h t q
  · rw [q]; exact hx
theorem nil4 : ∀ t ∈ ([[], [], [], []] : List Str), t.length ≤ 30 := by decide
def hdP (p : Page) : Bool := !inR p.lsn 0 1000 || !decide ((p.slots.length : Int) = 4)
theorem hdP_len {p : Page} (h : hdP p = false) : p.slots.length = 4 := by
  unfold hdP at h; simp only [Bool.or_eq_false_iff, Bool.not_eq_false', decide_eq_true_eq] at h; omega
theorem pageOK_int {p : Page} : pageOK p = ((inR p.lsn 0 1000 && decide ((p.slots.length : Int) = 4)) && !p.slots.any (fun s => decide ((30 : Int) < (s.length : Int)))) := by
  unfold pageOK
  rw [show decide ((p.slots.length : Int) = 4) = decide (p.slots.length = 4) from decide_eq_decide.2 (by omega), show (fun s : Str => decide ((30 : Int) < (s.length : Int))) = fun s => decide (30 < s.length) from funext fun s => decide_eq_decide.2 (by omega)]
theorem hdP_in {p : Page} (h : hdP p = false) : (inR p.lsn 0 1000 && decide ((p.slots.length : Int) = 4)) = true := by
  unfold hdP at h; simp only [Bool.or_eq_false_iff, Bool.not_eq_false'] at h; rw [h.1, h.2]; rfl
theorem pageOK_hd {p : Page} (h : hdP p = true) : pageOK p = false := by
  rw [pageOK_int]; unfold hdP at h
  cases h1 : inR p.lsn 0 1000 with
  | false => rfl
  | true => rw [h1] at h; simp only [Bool.not_true, Bool.false_or, Bool.not_eq_true'] at h; rw [h]; rfl
noncomputable def samP (x y : Page) : Bool := decide (x.lsn = y.lsn) && eqb x.slots y.slots
theorem samP_rfl {x : Page} : samP x x = true := by unfold samP; rw [eqb_rfl]; simp
theorem idx_eq {xs : List Str} : idxOf (fun s => eqb [] s) xs 0 = idxOf (fun s => decide (s = [])) xs 0 := by
  rw [show (fun s : Str => eqb [] s) = fun s => decide (s = []) from funext fun s => by by_cases h : s = [] <;> simp [h, eqb_rfl, eqb_f, Ne.symm]]
theorem getDs {l : List Str} {i : Nat} (h : i < l.length) : l.getD i [] = l[i] := by simp [List.getD, h]
theorem set_get {p : Page} {i : Nat} {a n : Int} {x : Str} (hi : i < p.slots.length) (ha : 0 ≤ a) : (⟨n, p.slots.set a.toNat x⟩ : Page).slots.getD i [] = if (i : Int) = a then x else p.slots.getD i [] := by
  dsimp only
  by_cases h : (i : Int) = a
  · rw [if_pos h, show a.toNat = i from by omega]; simp [List.getD, hi]
  · rw [if_neg h, List.getD_eq_getElem?_getD, List.getElem?_set_ne (by omega), List.getD_eq_getElem?_getD]
theorem rows_all {l : Str} : (((l.map byteRow).drop 0).take l.length) = l.map byteRow := by simp [List.take_of_length_le]
def usedK (ts : List Str) (k : Nat) : Nat := (ts.take k).countP (fun s => decide (s ≠ []))
def usedN (ts : List Str) : Nat := usedK ts ts.length
theorem usedK_t {ts : List Str} {k : Nat} (hk : k < ts.length) (h : ts[k] ≠ []) : usedK ts (k + 1) = usedK ts k + 1 := by
  unfold usedK; rw [take_succ hk, List.countP_append]; simp [h]
theorem usedK_f {ts : List Str} {k : Nat} (hk : k < ts.length) (h : ts[k] = []) : usedK ts (k + 1) = usedK ts k := by
  unfold usedK; rw [take_succ hk, List.countP_append]; simp [h]
theorem usedK_le {ts : List Str} {k : Nat} : usedK ts k ≤ k := Nat.le_trans (List.countP_le_length) (by rw [List.length_take]; omega)
theorem four_of {l : List Str} (h : l.length = 4) : ∃ a b c d, l = [a, b, c, d] := by
  match l, h with
  | [a, b, c, d], _ => exact ⟨a, b, c, d, rfl⟩
theorem ins_fact {p : Page} {F : Str} (h : PG p) (h0 : F ≠ []) (h1 : F.length ≤ 30) : ∃ q k c, pageInsert p F = (q, k, c) ∧ q.slots.length = 4 ∧ 0 ≤ k ∧ k < 4 ∧
    ((c = 7 ∧ usedN p.slots = 4) ∨ (c = 0 ∧ usedN p.slots ≠ 4 ∧ pageOK q = true ∧ usedN q.slots = usedN p.slots + 1 ∧ q.slots.getD k.toNat [] = F ∧ p.slots.getD k.toNat [] = [])) := by
  have hok := h.ok
  have hF : inR F.length 1 30 = true := inR_iff.2 ⟨by cases F with | nil => exact absurd rfl h0 | cons a b => simp; omega, by omega⟩
  obtain ⟨a, b, c, d, hs⟩ := four_of h.ln
  have hq : ∀ k, pageOK ⟨p.lsn, p.slots.set k F⟩ = true := fun k => PG.ok ⟨by simp [h.ln], set_st h.st h1, h.ls⟩
  have e : pageInsert p F = if idxOf (fun s => decide (s = [])) p.slots 0 < 0 then (p, 0, 7) else (⟨p.lsn, p.slots.set (idxOf (fun s => decide (s = [])) p.slots 0).toNat F⟩, idxOf (fun s => decide (s = [])) p.slots 0, 0) := by
    unfold pageInsert; rw [if_neg (by omega), if_neg (by rw [hok]; simp), if_neg (by rw [hF]; simp)]
  have go : ∀ k : Nat, k < 4 → idxOf (fun s => decide (s = [])) p.slots 0 = k → usedN p.slots ≠ 4 → usedN (p.slots.set k F) = usedN p.slots + 1 → p.slots.getD k [] = [] → _ := fun k hk hi hu hu2 hg =>
    (⟨⟨p.lsn, p.slots.set k F⟩, k, 0, by rw [e, hi, if_neg (by omega)]; rfl, by simp [h.ln], by omega, by omega, .inr ⟨rfl, hu, hq k, hu2, by simp [List.getD, h.ln, hk], hg⟩⟩ :
      ∃ q k c, pageInsert p F = (q, k, c) ∧ q.slots.length = 4 ∧ 0 ≤ k ∧ k < 4 ∧
    ((c = 7 ∧ usedN p.slots = 4) ∨ (c = 0 ∧ usedN p.slots ≠ 4 ∧ pageOK q = true ∧ usedN q.slots = usedN p.slots + 1 ∧ q.slots.getD k.toNat [] = F ∧ p.slots.getD k.toNat [] = [])))
  have hln := h.ln; rw [hs] at go e hln ⊢
  by_cases ha : a = []
  · subst ha
    exact go 0 (by omega) (by simp [idxOf]) (by simp only [usedN, usedK, List.length_cons, List.length_nil, List.take, List.countP_cons, List.countP_nil]; simp; split <;> split <;> split <;> omega) (by simp [usedN, usedK, List.countP_cons, h0]) rfl
  by_cases hb : b = []
  · subst hb
    exact go 1 (by omega) (by simp [idxOf, ha]) (by simp only [usedN, usedK, List.length_cons, List.length_nil, List.take, List.countP_cons, List.countP_nil]; simp [ha]; split <;> split <;> omega) (by simp [usedN, usedK, List.countP_cons, h0, ha]) rfl
  by_cases hc : c = []
  · subst hc
    exact go 2 (by omega) (by simp [idxOf, ha, hb]) (by simp only [usedN, usedK, List.length_cons, List.length_nil, List.take, List.countP_cons, List.countP_nil]; simp [ha, hb]; split <;> omega) (by simp [usedN, usedK, List.countP_cons, h0, ha, hb]) rfl
  by_cases hd : d = []
  · subst hd
    exact go 3 (by omega) (by simp [idxOf, ha, hb, hc]) (by simp [usedN, usedK, List.countP_cons, ha, hb, hc]) (by simp [usedN, usedK, List.countP_cons, h0, ha, hb, hc]) rfl
  exact ⟨p, 0, 7, by rw [e, if_pos (by simp [idxOf, ha, hb, hc, hd])], h.ln, by omega, by omega, .inl ⟨rfl, by simp [usedN, usedK, List.countP_cons, ha, hb, hc, hd]⟩⟩
theorem set_ok {p : Page} {k : Int} {F : Str} {n : Int} (h : PG p) (hk : 0 ≤ k ∧ k < 4) (h1 : F.length ≤ 30) (hn : 0 ≤ n ∧ n ≤ 1000) : pageSet p k F n = (⟨n, p.slots.set k.toNat F⟩, 0) ∧ PG ⟨n, p.slots.set k.toNat F⟩ := by
  refine ⟨(pageSet_set (by omega) h.ok ?_).1, ⟨by simp [h.ln], set_st h.st h1, hn⟩⟩
  rw [inR_iff.2 (show 0 ≤ k ∧ k ≤ 3 by omega), inR_iff.2 hn]; simp; omega
theorem putFs_app {b : Str} {ts : List Str} : b ++ putFs [] ts = putFs b ts := by
  unfold putFs putK; simp
theorem putFs_len {b : Str} {ts : List Str} : (putFs b ts).length = b.length + (putFs [] ts).length := by rw [← putFs_app (b := b), List.length_append]
/-- The bytes of a page. -/
def pbF (no : Int) (p : Page) : Str := sealB (putFs [112, byteOf no, shB p.lsn 8, byteOf p.lsn] p.slots)
def hdF (b : Str) : Str := (takeF ⟨b, false⟩ 4).1
def rdP (b : Str) : Page := ⟨bigN ((hdF b).drop 2), (fieldsF (takeF ⟨b, false⟩ 4).2).1⟩
def rdE (b : Str) : Rd := (fieldsF (takeF ⟨b, false⟩ 4).2).2
def badP (no : Int) (b : Str) : Bool := ((!doneF (rdE b) || !decide ((((hdF b).getD 0 0).toNat : Int) = 112)) || !decide ((((hdF b).getD 1 0).toNat : Int) = no)) || !pageOK (rdP b)
def rpF (no : Int) (b : Str) : Page × Int := if 65536 < (b.length : Int) then (.zero, 2) else if (unsealF b).2 = false then (.zero, 8) else if badP no (unsealF b).1 = true then (.zero, 3) else (rdP (unsealF b).1, 0)
section
variable {no : Int} {b : Str}
theorem rpF_1 (h : 65536 < (b.length : Int)) : rpF no b = (.zero, 2) := by unfold rpF; rw [if_pos h]
theorem rpF_2 (h : ¬ 65536 < (b.length : Int)) (h1 : (unsealF b).2 = false) : rpF no b = (.zero, 8) := by unfold rpF; rw [if_neg h, if_pos h1]
theorem rpF_3 (h : ¬ 65536 < (b.length : Int)) (h1 : (unsealF b).2 = true) (h2 : badP no (unsealF b).1 = true) : rpF no b = (.zero, 3) := by unfold rpF; rw [if_neg h, if_neg (by rw [h1]; simp), if_pos h2]
theorem rpF_4 (h : ¬ 65536 < (b.length : Int)) (h1 : (unsealF b).2 = true) (h2 : badP no (unsealF b).1 = false) : rpF no b = (rdP (unsealF b).1, 0) := by unfold rpF; rw [if_neg h, if_neg (by rw [h1]; simp), if_neg (by rw [h2]; simp)]
end
theorem hdF_len {b : Str} : (hdF b).length = 4 := takeF_len.1
theorem pb_len {no : Int} {p : Page} (h : PG p) : (pbF no p).length ≤ 160 := by
  unfold pbF putFs; rw [seal_len, putK_len]
  have := lenK_le (k := p.slots.length) h.st
  rw [h.ln] at this ⊢
  simp only [List.length_cons, List.length_nil]; omega
theorem rp_pb {no nx : Int} {p : Page} (h : PG p) (hn : 0 ≤ no ∧ no ≤ 255) : rpF nx (pbF no p) = if no = nx then (p, 0) else (.zero, 3) := by
  have hl := pb_len (no := no) h
  have hu : unsealF (pbF no p) = (putFs [112, byteOf no, shB p.lsn 8, byteOf p.lsn] p.slots, true) := unseal_seal
  have e : putFs [112, byteOf no, shB p.lsn 8, byteOf p.lsn] p.slots = [112, byteOf no, shB p.lsn 8, byteOf p.lsn] ++ (byteOf p.slots.length :: p.slots.flatMap fieldB) := by
    unfold putFs putK; rw [List.take_of_length_le (Nat.le_refl _)]; simp
  have et : takeF ⟨putFs [112, byteOf no, shB p.lsn 8, byteOf p.lsn] p.slots, false⟩ 4 = ([112, byteOf no, shB p.lsn 8, byteOf p.lsn], ⟨byteOf p.slots.length :: p.slots.flatMap fieldB, false⟩) := by
    rw [e, takeF_2 (by simp; omega)]; rfl
  have ef : fieldsF ⟨byteOf p.slots.length :: p.slots.flatMap fieldB, false⟩ = (p.slots, ⟨[], false⟩) := fieldsF_put (by have := h.ln; omega) (fun t ht => by have := h.st t ht; omega)
  have ep : rdP (unsealF (pbF no p)).1 = p := by
    rw [hu]; unfold rdP hdF; rw [et, ef]
    show (⟨(bigN (twoB p.lsn) : Int), p.slots⟩ : Page) = p
    have hls := h.ls
    have : ((p.lsn.toNat : Nat) : Int) = p.lsn := by omega
    rw [← this, bigN_two (by omega), this]
  have eb : badP nx (unsealF (pbF no p)).1 = !decide (no = nx) := by
    unfold badP; rw [ep, h.ok]; rw [hu]; unfold rdE hdF; rw [et, ef]
    have hb := byteOf_nat no
    rw [show no % 256 = no from by omega] at hb
    show (((!true || !true) || !decide (((byteOf no).toNat : Int) = nx)) || false) = _
    rw [hb]; simp
  by_cases hx : no = nx
  · rw [rpF_4 (by omega) (by rw [hu]) (by rw [eb, decide_eq_true hx]; rfl), ep, if_pos hx]
  · rw [rpF_3 (by omega) (by rw [hu]) (by rw [eb, decide_eq_false hx]; rfl), if_neg hx]
end Go.AM

/- Plain data of the program: more structs. -/
namespace Go.AM
set_option linter.unusedVariables false
structure GLogRecord where
  Epoch : Int
  Lsn : Int
  Tx : Int
  Kind : Int
  Prev : Int
  Next : Int
  Page : Int
  Slot : Int
  Before : Str
  After : Str
def GLogRecord.av (x : GLogRecord) : AV := .agg [.d (.int .i64 x.Epoch), .d (.int .i64 x.Lsn), .d (.int .i64 x.Tx), .d (.int .i64 x.Kind), .d (.int .i64 x.Prev), .d (.int .i64 x.Next), .d (.int .i64 x.Page), .d (.int .i64 x.Slot), .d (.str x.Before), .d (.str x.After)]
theorem GLogRecord.ext1 {a b : GLogRecord} (h0 : a.Epoch = b.Epoch) (h1 : a.Lsn = b.Lsn) (h2 : a.Tx = b.Tx) (h3 : a.Kind = b.Kind) (h4 : a.Prev = b.Prev) (h5 : a.Next = b.Next) (h6 : a.Page = b.Page) (h7 : a.Slot = b.Slot) (h8 : a.Before = b.Before) (h9 : a.After = b.After) : a = b := by cases a; cases b; simp_all
def GLogRecord.row (x : GLogRecord) : List D := [.int .i64 x.Epoch, .int .i64 x.Lsn, .int .i64 x.Tx, .int .i64 x.Kind, .int .i64 x.Prev, .int .i64 x.Next, .int .i64 x.Page, .int .i64 x.Slot, .str x.Before, .str x.After]
def GLogRecord.wf (x : GLogRecord) : Prop := wfInt x.Epoch ∧ wfInt x.Lsn ∧ wfInt x.Tx ∧ wfInt x.Kind ∧ wfInt x.Prev ∧ wfInt x.Next ∧ wfInt x.Page ∧ wfInt x.Slot ∧ wfStr x.Before ∧ wfStr x.After
def GLogRecord.sz (x : GLogRecord) : Nat := x.Before.length + x.After.length
def GLogRecord.zero : GLogRecord := ⟨0, 0, 0, 0, 0, 0, 0, 0, [], []⟩
theorem GLogRecord.dec {P : Program} {t : TypeId} {fs : Array Field} {f0 f1 f2 f3 f4 f5 f6 f7 f8 f9 : Field} (h : P.underlying t = some (.struct fs)) (hfs : fs.toList = [f0, f1, f2, f3, f4, f5, f6, f7, f8, f9]) (d0 : Dec P f0.type intRow wfInt) (d1 : Dec P f1.type intRow wfInt) (d2 : Dec P f2.type intRow wfInt) (d3 : Dec P f3.type intRow wfInt) (d4 : Dec P f4.type intRow wfInt) (d5 : Dec P f5.type intRow wfInt) (d6 : Dec P f6.type intRow wfInt) (d7 : Dec P f7.type intRow wfInt) (d8 : Dec P f8.type strRow wfStr) (d9 : Dec P f9.type strRow wfStr) : Dec P t GLogRecord.row GLogRecord.wf := fun hc => by
  have g := hasC_struct h hc
  rw [hfs] at g
  obtain ⟨a0, b0, e0, c0, g⟩ := hasFs_cons g
  obtain ⟨x0, r0, w0⟩ := d0 c0
  obtain ⟨a1, b1, e1, c1, g⟩ := hasFs_cons g
  obtain ⟨x1, r1, w1⟩ := d1 c1
  obtain ⟨a2, b2, e2, c2, g⟩ := hasFs_cons g
  obtain ⟨x2, r2, w2⟩ := d2 c2
  obtain ⟨a3, b3, e3, c3, g⟩ := hasFs_cons g
  obtain ⟨x3, r3, w3⟩ := d3 c3
  obtain ⟨a4, b4, e4, c4, g⟩ := hasFs_cons g
  obtain ⟨x4, r4, w4⟩ := d4 c4
  obtain ⟨a5, b5, e5, c5, g⟩ := hasFs_cons g
  obtain ⟨x5, r5, w5⟩ := d5 c5
  obtain ⟨a6, b6, e6, c6, g⟩ := hasFs_cons g
  obtain ⟨x6, r6, w6⟩ := d6 c6
  obtain ⟨a7, b7, e7, c7, g⟩ := hasFs_cons g
  obtain ⟨x7, r7, w7⟩ := d7 c7
  obtain ⟨a8, b8, e8, c8, g⟩ := hasFs_cons g
  obtain ⟨x8, r8, w8⟩ := d8 c8
  obtain ⟨a9, b9, e9, c9, g⟩ := hasFs_cons g
  obtain ⟨x9, r9, w9⟩ := d9 c9
  have z := hasFs_nil g
  exact ⟨⟨x0, x1, x2, x3, x4, x5, x6, x7, x8, x9⟩, by rw [e0, r0, e1, r1, e2, r2, e3, r3, e4, r4, e5, r5, e6, r6, e7, r7, e8, r8, e9, r9, z]; rfl, ⟨w0, w1, w2, w3, w4, w5, w6, w7, w8, w9⟩⟩
def GLogRecord.mk1 (k : Nat) (x : GLogRecord) : GLogRecord := ⟨((k : Nat) : Int), ((k + 1 : Nat) : Int), ((k + 2 : Nat) : Int), ((k + 3 : Nat) : Int), ((k + 4 : Nat) : Int), ((k + 5 : Nat) : Int), ((k + 6 : Nat) : Int), ((k + 7 : Nat) : Int), mkT (k + 8), mkT (k + 9)⟩
theorem GLogRecord.eq_iff {a b : GLogRecord} : a = b ↔ (a.Epoch = b.Epoch ∧ a.Lsn = b.Lsn ∧ a.Tx = b.Tx ∧ a.Kind = b.Kind ∧ a.Prev = b.Prev ∧ a.Next = b.Next ∧ a.Page = b.Page ∧ a.Slot = b.Slot ∧ a.Before = b.Before ∧ a.After = b.After) := by
  constructor
  · rintro rfl; exact ⟨rfl, rfl, rfl, rfl, rfl, rfl, rfl, rfl, rfl, rfl⟩
  · intro h; cases a; cases b; simp_all
theorem GLogRecord.q_eqs {C : Cx} {st : St} {neg : Bool} {x y : XA} {a b : GLogRecord} (hx : evA st.sl x = some a.av) (hy : evA st.sl y = some b.av) : QStep C st (.eqs neg [0, 0, 0, 0, 0, 0, 0, 0, 2, 2] x y) (bool (bif neg then !eqb a b else eqb a b)) := by
  refine q_as (Go.AM.q_eqs hx hy rfl) ?_
  have e : (decide (a.Epoch = b.Epoch) && (decide (a.Lsn = b.Lsn) && (decide (a.Tx = b.Tx) && (decide (a.Kind = b.Kind) && (decide (a.Prev = b.Prev) && (decide (a.Next = b.Next) && (decide (a.Page = b.Page) && (decide (a.Slot = b.Slot) && (decide (a.Before = b.Before) && (decide (a.After = b.After) && true)))))))))) = eqb a b := by
    rw [Bool.eq_iff_iff, eqb_iff, GLogRecord.eq_iff]; simp [Bool.and_eq_true]
  show bool (bif neg then !(decide (a.Epoch = b.Epoch) && (decide (a.Lsn = b.Lsn) && (decide (a.Tx = b.Tx) && (decide (a.Kind = b.Kind) && (decide (a.Prev = b.Prev) && (decide (a.Next = b.Next) && (decide (a.Page = b.Page) && (decide (a.Slot = b.Slot) && (decide (a.Before = b.Before) && (decide (a.After = b.After) && true)))))))))) else (decide (a.Epoch = b.Epoch) && (decide (a.Lsn = b.Lsn) && (decide (a.Tx = b.Tx) && (decide (a.Kind = b.Kind) && (decide (a.Prev = b.Prev) && (decide (a.Next = b.Next) && (decide (a.Page = b.Page) && (decide (a.Slot = b.Slot) && (decide (a.Before = b.Before) && (decide (a.After = b.After) && true))))))))))) = _
  rw [e]

structure GDirty where
  No : Int
  First : Int
def GDirty.av (x : GDirty) : AV := .agg [.d (.int .i64 x.No), .d (.int .i64 x.First)]
theorem GDirty.ext1 {a b : GDirty} (h0 : a.No = b.No) (h1 : a.First = b.First) : a = b := by cases a; cases b; simp_all
def GDirty.row (x : GDirty) : List D := [.int .i64 x.No, .int .i64 x.First]
def GDirty.wf (x : GDirty) : Prop := wfInt x.No ∧ wfInt x.First
def GDirty.zero : GDirty := ⟨0, 0⟩
theorem GDirty.dec {P : Program} {t : TypeId} {fs : Array Field} {f0 f1 : Field} (h : P.underlying t = some (.struct fs)) (hfs : fs.toList = [f0, f1]) (d0 : Dec P f0.type intRow wfInt) (d1 : Dec P f1.type intRow wfInt) : Dec P t GDirty.row GDirty.wf := fun hc => by
  have g := hasC_struct h hc
  rw [hfs] at g
  obtain ⟨a0, b0, e0, c0, g⟩ := hasFs_cons g
  obtain ⟨x0, r0, w0⟩ := d0 c0
  obtain ⟨a1, b1, e1, c1, g⟩ := hasFs_cons g
  obtain ⟨x1, r1, w1⟩ := d1 c1
  have z := hasFs_nil g
  exact ⟨⟨x0, x1⟩, by rw [e0, r0, e1, r1, z]; rfl, ⟨w0, w1⟩⟩
def GDirty.mk1 (k : Nat) (x : GDirty) : GDirty := ⟨((k : Nat) : Int), ((k + 1 : Nat) : Int)⟩
theorem GDirty.eq_iff {a b : GDirty} : a = b ↔ (a.No = b.No ∧ a.First = b.First) := by
  constructor
  · rintro rfl; exact ⟨rfl, rfl⟩
  · intro h; cases a; cases b; simp_all
theorem GDirty.q_eqs {C : Cx} {st : St} {neg : Bool} {x y : XA} {a b : GDirty} (hx : evA st.sl x = some a.av) (hy : evA st.sl y = some b.av) : QStep C st (.eqs neg [0, 0] x y) (bool (bif neg then !eqb a b else eqb a b)) := by
  refine q_as (Go.AM.q_eqs hx hy rfl) ?_
  have e : (decide (a.No = b.No) && (decide (a.First = b.First) && true)) = eqb a b := by
    rw [Bool.eq_iff_iff, eqb_iff, GDirty.eq_iff]; simp [Bool.and_eq_true]
  show bool (bif neg then !(decide (a.No = b.No) && (decide (a.First = b.First) && true)) else (decide (a.No = b.No) && (decide (a.First = b.First) && true))) = _
  rw [e]

structure GTx where
  Id : Int
  Last : Int
def GTx.av (x : GTx) : AV := .agg [.d (.int .i64 x.Id), .d (.int .i64 x.Last)]
theorem GTx.ext1 {a b : GTx} (h0 : a.Id = b.Id) (h1 : a.Last = b.Last) : a = b := by cases a; cases b; simp_all
def GTx.row (x : GTx) : List D := [.int .i64 x.Id, .int .i64 x.Last]
def GTx.wf (x : GTx) : Prop := wfInt x.Id ∧ wfInt x.Last
def GTx.zero : GTx := ⟨0, 0⟩
theorem GTx.dec {P : Program} {t : TypeId} {fs : Array Field} {f0 f1 : Field} (h : P.underlying t = some (.struct fs)) (hfs : fs.toList = [f0, f1]) (d0 : Dec P f0.type intRow wfInt) (d1 : Dec P f1.type intRow wfInt) : Dec P t GTx.row GTx.wf := fun hc => by
  have g := hasC_struct h hc
  rw [hfs] at g
  obtain ⟨a0, b0, e0, c0, g⟩ := hasFs_cons g
  obtain ⟨x0, r0, w0⟩ := d0 c0
  obtain ⟨a1, b1, e1, c1, g⟩ := hasFs_cons g
  obtain ⟨x1, r1, w1⟩ := d1 c1
  have z := hasFs_nil g
  exact ⟨⟨x0, x1⟩, by rw [e0, r0, e1, r1, z]; rfl, ⟨w0, w1⟩⟩
def GTx.mk1 (k : Nat) (x : GTx) : GTx := ⟨((k : Nat) : Int), ((k + 1 : Nat) : Int)⟩
theorem GTx.eq_iff {a b : GTx} : a = b ↔ (a.Id = b.Id ∧ a.Last = b.Last) := by
  constructor
  · rintro rfl; exact ⟨rfl, rfl⟩
  · intro h; cases a; cases b; simp_all
theorem GTx.q_eqs {C : Cx} {st : St} {neg : Bool} {x y : XA} {a b : GTx} (hx : evA st.sl x = some a.av) (hy : evA st.sl y = some b.av) : QStep C st (.eqs neg [0, 0] x y) (bool (bif neg then !eqb a b else eqb a b)) := by
  refine q_as (Go.AM.q_eqs hx hy rfl) ?_
  have e : (decide (a.Id = b.Id) && (decide (a.Last = b.Last) && true)) = eqb a b := by
    rw [Bool.eq_iff_iff, eqb_iff, GTx.eq_iff]; simp [Bool.and_eq_true]
  show bool (bif neg then !(decide (a.Id = b.Id) && (decide (a.Last = b.Last) && true)) else (decide (a.Id = b.Id) && (decide (a.Last = b.Last) && true))) = _
  rw [e]

end Go.AM

/- AM, part 42: an element of an own slice of slices; an element of an array that stands in a row. -/
namespace Go.AM
section
variable {C : Cx} {st : St}
theorem q_ixB {x i : XA} {k : IntKind} {n : Nat} {e len : Nat} (hx : evA st.sl x = some (.osl e 1 0 len)) (hi : evA st.sl i = some (.d (.int k (n : Int))))
    (hr : n < len) : QStep C st (.iadr 1 x i) (.ptr e n) := by
  intro op hf ac w β S
  obtain ⟨y, j, hy, hj, hrun⟩ := iadr_run (ac := ac) hf
  have h2 := AR_of_fitA S hy hx
  have h3 := AR_of_fitA S hj hi
  rw [AR] at h2
  rw [AR, DR] at h3
  obtain ⟨a, cap, h4, h5, h6⟩ := h2
  rcases h6 with h6 | ⟨b, c, ty, fr, h7, rfl, h8, h9⟩
  · omega
  refine ⟨_, ?_, fun w' _ => hrun w' k n b _ _ _ (by omega) (by omega) h4 h3⟩
  rw [AR]
  exact ⟨b, h7, by simp⟩
theorem q_iadrI {sz m : Nat} {x i : XA} {k : IntKind} {n : Int} {cs : List D} (hx : evA st.sl x = some (.d (.ip cs))) (hi : evA st.sl i = some (.d (.int k n)))
    (h0 : 0 ≤ n) (hr : n < m) : QStep C st (.iadrA sz m x i) (.d (.ip (cs.drop (n.toNat * sz)))) := by
  intro op hf ac w β S
  simp only [fits] at hf
  split at hf
  · rename_i t y j ho
    simp only [Bool.and_eq_true] at hf
    obtain ⟨⟨h1, h2⟩, h3⟩ := hf
    have h2 := AR_of_fitA S h2 hx
    have h3 := AR_of_fitA S h3 hi
    rw [AR, DR] at h2
    rw [AR, DR] at h3
    obtain ⟨b, o, h2, h4⟩ := h2
    split at h1
    · rename_i l el hu
      simp only [Bool.and_eq_true] at h1
      have := Nat.eq_of_beq_eq_true h1.1
      subst this
      refine ⟨.pointer (some ⟨b, o + n.toNat * sz, none⟩), ?_, fun w' _ => ?_⟩
      · rw [AR, DR]
        refine ⟨b, _, rfl, ?_⟩
        rcases h4 with h4 | ⟨h5, h6⟩
        · left; rw [h4]; simp
        · exact .inr ⟨h5, DRow_drop _ h6⟩
      · simp [execOp, ho, h2, h3, Instr.indexAt, asIntOf, run_underlying hu, Instr.sureAddr, h0, hr, szIs_some h1.2, add_spot]
    · cases h1
  · cases hf
end
end Go.AM
namespace Go.AM
section
variable {C : Cx} {gs : List Gd} {K : St → Prop}
theorem AL_app2 {X : Nat → Prop} {β : Names} {w : World} : ∀ {xs ys : List AV} {us vs : List Value}, AL X β w xs us → AL X β w ys vs → AL X β w (xs ++ ys) (us ++ vs)
  | [], ys, us, vs, h1, h2 => by rw [AL] at h1; subst h1; exact h2
  | x :: xs, ys, us, vs, h1, h2 => by
    rw [AL] at h1
    obtain ⟨v, r, rfl, h3, h4⟩ := h1
    rw [List.cons_append, List.cons_append, AL]
    exact ⟨v, _, rfl, h3, AL_app2 h4 h2⟩
/-- A function value among the data is called in a region that draws its order. -/
theorem ax_callvqD {sl : List (Nat × AV)} {own : List (Nat × OB)} {d : Nat} {x : XA} {f : Nat} {args : List XA} {its : List XI} {vs args0 : List AV} {ds : List D} {r : AV} {P : Program} {mv : Nat → Bool} {v : Value}
    (hx : evA sl x = some (.d (.fn (.func f) ds))) (hb : hasBody C.P f = true) (ha : evL sl args = some vs) (hcon : Con P mv f args0 [] (fun r' h' => r' = r ∧ h' = [])) (hP : C.P = P) (hl : LAL own (vs ++ ds.map AV.d) args0) (hv : scVal r = some v)
    (h : AXI C true gs its ⟨(d, r) :: sl, own⟩ K) : AXI C true gs (.callv (some d) x args :: its) ⟨sl, own⟩ K := by
  intro ops W R lo i k hf rest a w S G H
  subst hP
  obtain ⟨m, h1, h2, h3, h4⟩ := fitIs_cons hf
  obtain ⟨o, y, as, ts, ho, hop, hg, hd, hfr, hy, hfx, rfl⟩ := callv_fit h1
  rw [range_split (by omega) h4, range_one, List.append_assoc, List.singleton_append]
  obtain ⟨β, S⟩ := S
  have hF := AR_of_fitA S hy hx
  rw [AR, DR] at hF
  obtain ⟨cv, hF, _⟩ := hF
  refine R.callq rfl i _ a w o f (as.map a.eval ++ cv) v ho (wanted_of hg G) ?_ ?_
  · intro w' hw'
    have S' := S.ext hw'
    have hA := AL_of_fits S' hfx ha
    have hF' := AR_of_fitA S' hy hx
    rw [AR, DR] at hF'
    obtain ⟨cv', hF', hC⟩ := hF'
    rw [hF] at hF'
    simp only [Value.func.injEq, true_and] at hF'
    subst hF'
    refine ⟨by simp [execOp, hop, resolve, hF, Deferred.ofValue, invoke, callFunc_run hb], ?_⟩
    have e1 : as.map a.eval ++ cv = (as.toList.map a.eval ++ cv.toList).toArray := by simp
    rw [e1]
    have hA' := LAL.al (X' := C.X) (β' := noN) S'.hr (fun b hb => ⟨hb.1, fun e he => by cases he⟩) (fun e b _ hb => ⟨S'.hr.notX e b hb, fun e he => by cases he⟩) hl (AL_app2 hA (DL_AL hC))
    refine (hcon C.X noN w' _ (fun b hb => by have := S'.xlt b hb; have := S'.fr.size; omega) (fun e b h => by cases h) ⟨fun e e' b h => (by cases h), fun e b h => (by cases h), fun e b h => (by cases h), fun e ob h => (by simp [get] at h)⟩ hA').mono ?_
    rintro e w'' ⟨u, r', h', β', he, ⟨rfl, rfl⟩, hr, _, F, _⟩
    rw [(scVal_iff hv _ _ _ _).1 hr] at he
    exact ⟨he, hw'.trans ⟨F.os, F.tape, F.output, F.size, fun b hb => F.same b hb (fun e h => by cases h)⟩⟩
  · rw [hd]
    exact h ops W R lo (i + 1) k h2 rest _ w ⟨β, S.put (dstFree_lt hfr d rfl) ((scVal_iff hv _ _ _ _).2 rfl)⟩ (G.put hfr) H
end
end Go.AM
namespace Go.AM
theorem plain_map : ∀ (ds : List D), plainL (ds.map AV.d) = true
  | [] => rfl
  | d :: ds => by rw [List.map_cons, plainL, plain_map ds]; rfl
theorem plain_cons2 {x y : AV} (h : plain x = true) (h2 : plain y = true) (ds : List D) : plainL ([x, y] ++ ds.map AV.d) = true := by
  show plainL (x :: y :: ds.map AV.d) = true
  rw [plainL, h, plainL, h2, plain_map]; rfl
end Go.AM

/- AM, part 43: regions that draw their order, where a guarded group turns own blocks: first what is ahead of it, then the group, wanted or not. -/
namespace Go.AM
theorem region_core {C : Cx} {ops : Array Oper} {deps : List (List Nat)} {n : Nat} {Q : Exit → Act → World → Prop} (f4 : depsOK ops deps n = true) (hns : n ≤ ops.size) (stX : (Nat → Bool) → St)
    (hL : ∀ L L', (∀ j, j < n → L j = L' j) → stX L = stX L')
    (hs : ∀ i, i < n → ∀ L : Nat → Bool, L i = false → (∀ j, depOf deps i j = true → L j = true) → (∀ j m, L j = true → depOf deps j m = true → L m = true) →
      ∀ (Qx : Exit → Act → World → Prop) (a : Act) (w : World), Sat C (stX L) a w → (∀ a' w', Sat C (stX (fun j => Nat.beq i j || L j)) a' w' → Qx .normal a' w') → wpOp C.P ops Qx i (Qx .normal) a w)
    (ht : ∀ a w, Sat C (stX (fun _ => true)) a w → wpOps C.P ops Q (List.range' n (ops.size - n)) a w) :
    ∀ a w, Sat C (stX (fun _ => false)) a w → wpAny C.P .any ops Q ops.size (Array.replicate ops.size false) a w := by
  have hfin : ∀ (m : Nat) (listed : Array Bool) (a : Act) (w : World), todo listed = m → Closed deps ops listed → (∀ k, n ≤ k → listed.getD k false = false) → Sat C (stX (fun j => listed.getD j false)) a w →
      (∀ j, j < n → listed.getD j false = true) → wpAny C.P .any ops Q m listed a w := by
    intro m listed a w hm hc hk S hall
    have hl : ∀ j, listed.getD j false = true ↔ j < n := fun j => ⟨fun h => by
      rcases Nat.lt_or_ge j n with h' | h'
      · exact h'
      · exact absurd h (by rw [hk j h']; simp), hall j⟩
    have ht' := todo_first listed.toList n (by rw [Array.length_toList, hc.1]; exact hns) (fun j => by have := hl j; simpa using this)
    have hm' : ops.size - n = m := by
      have h1 : listed.toList.countP (fun b => !b) = m := hm
      rw [h1, Array.length_toList, hc.1] at ht'; omega
    refine wpAny_forced f4 m n listed a w (Nat.le_refl _) (by omega) hc hl ?_
    have := ht a w ?_
    · rw [hm'] at this; exact this
    · rwa [hL (fun _ => true) (fun j => listed.getD j false) (fun j hj => (hall j (by omega)).symm)]
  have hQ : ∀ (m : Nat) (listed : Array Bool) (a : Act) (w : World), todo listed = m → Closed deps ops listed → (∀ k, n ≤ k → listed.getD k false = false) → Sat C (stX (fun j => listed.getD j false)) a w →
      wpAny C.P .any ops Q m listed a w := by
    intro m
    induction m with
    | zero =>
      intro listed a w hm hc hk S
      by_cases hall : ∀ j, j < n → listed.getD j false = true
      · exact hfin 0 listed a w hm hc hk S hall
      · exfalso
        simp only [Classical.not_forall] at hall
        obtain ⟨j, hj, hjl⟩ := hall
        have hjs : j < listed.size := by rw [hc.1]; omega
        have : listed[j]? = some false := by
          have h1 : listed[j]? = some listed[j] := by simp [hjs]
          have h2 : listed.getD j false = listed[j] := by simp [hjs]
          rw [h1]
          rw [h2] at hjl
          simp at hjl
          rw [hjl]
        have := todo_set this
        omega
    | succ m ih =>
      intro listed a w hm hc hk S
      by_cases hall : ∀ j, j < n → listed.getD j false = true
      · exact hfin (m + 1) listed a w hm hc hk S hall
      · have hall' : ∃ j, j < n ∧ listed.getD j false = false := by
          simp only [Classical.not_forall] at hall
          obtain ⟨j, hj, hjl⟩ := hall
          exact ⟨j, hj, by simpa using hjl⟩
        have hready : ∀ i, i ∈ Region.ready .any ops listed → i < n := fun i hi => by
          rcases Nat.lt_or_ge i n with h | h
          · exact h
          · obtain ⟨j, hj, hjl⟩ := hall'
            obtain ⟨_, o, ho, _⟩ := mem_ready.1 hi
            obtain ⟨ds, h4, _, _, h5⟩ := depsOK_spec f4 ho
            have := ready_deps f4 hc hi j (by unfold depOf; rw [h4]; exact membN_iff.2 (h5 h j (by omega)))
            rw [hjl] at this; cases this
        refine ⟨fun h0 => ?_, fun i hi => ?_⟩
        · exfalso
          have least : ∀ (p : Nat → Prop), (∃ n, p n) → ∃ n, p n ∧ ∀ m, p m → n ≤ m := by
            intro p ⟨n, hn⟩
            induction n using Nat.strongRecOn with
            | _ n ih =>
              by_cases hm : ∃ m, m < n ∧ p m
              · obtain ⟨m, h1, h2⟩ := hm; exact ih m h1 h2
              · exact ⟨n, hn, fun m hpm => by
                  rcases Nat.lt_or_ge m n with h | h
                  · exact absurd ⟨m, h, hpm⟩ hm
                  · exact h⟩
          obtain ⟨k, ⟨k1, k2⟩, k3⟩ := least (fun j => j < n ∧ listed.getD j false = false) hall'
          have hks : k < ops.size := by omega
          have hkr : k ∈ Region.ready .any ops listed := by
            refine mem_ready.2 ⟨?_, ops[k], by simp [hks], fun e he hbd => ?_⟩
            · have : k < listed.size := by rw [hc.1]; exact hks
              simp [this] at k2 ⊢; exact k2
            · obtain ⟨_, _, h2, _⟩ := depsOK_spec f4 (i := k) (o := ops[k]) (by simp [hks])
              have := h2 e he hbd
              cases hh : listed.getD e.on false with
              | true => rfl
              | false => have := k3 e.on ⟨by omega, hh⟩; omega
          rw [h0] at hkr; cases hkr
        · have hin := hready i hi
          have his : i < listed.size := by rw [hc.1]; omega
          have hil : listed.getD i false = false := by
            have := (mem_ready.1 hi).1
            simp [his] at this ⊢; exact this
          have hil' : listed[i]? = some false := by
            have h1 : listed[i]? = some listed[i] := by simp [his]
            have h2 : listed.getD i false = listed[i] := by simp [his]
            rw [h1, ← h2, hil]
          let Qx : Exit → Act → World → Prop := fun e a w => match e with
            | .normal => wpAny C.P .any ops Q m (listed.setIfInBounds i true) a w
            | e => Q e a w
          have hrun := hs i hin (fun j => listed.getD j false) hil (ready_deps f4 hc hi) (fun j m h1 h2 => hc.2 j m h1 h2) Qx a w S (fun a' w' S' => by
            show wpAny C.P .any ops Q m (listed.setIfInBounds i true) a' w'
            refine ih _ a' w' (by have := todo_set hil'; omega) (hc.step f4 hi) (fun k hk' => ?_) ?_
            · rw [getD_set his, hk k hk', Bool.or_false]
              cases hb : Nat.beq i k with
              | false => rfl
              | true => have := Nat.eq_of_beq_eq_true hb; omega
            · have e : (fun j => (listed.setIfInBounds i true).getD j false) = fun j => Nat.beq i j || listed.getD j false := by
                funext j; exact getD_set his
              rw [e]; exact S')
          refine wpOp_congr (Q := Qx) (fun e a w he hh => ?_) hrun
          cases e with
          | normal => exact absurd rfl he
          | _ => exact hh
  intro a w S
  have ht0 : todo (Array.replicate ops.size false) = ops.size := by
    have key : ∀ n : Nat, (List.replicate n false).countP (fun b => !b) = n := by
      intro n
      induction n with
      | zero => rfl
      | succ n ih => rw [List.replicate_succ, List.countP_cons, ih]; rfl
    unfold todo; rw [Array.toList_replicate]; exact key _
  have hz : ∀ j, (Array.replicate ops.size false).getD j false = false := fun j => by
    simp [Array.getElem?_replicate]
    split <;> simp
  refine hQ ops.size _ a _ ht0 ⟨by simp, fun i j hi => ?_⟩ (fun k _ => hz k) ?_
  · rw [hz] at hi; cases hi
  · have e : (fun j => (Array.replicate ops.size false).getD j false) = fun _ => false := by funext j; exact hz j
    rw [e]; exact S

/-- The operations ahead, one by one; the last one first in the list. -/
def AXR (C : Cx) (sl : List (Nat × AV)) (own : List (Nat × OB)) : Nat → List Dl → List XI → List (List Nat) → (List Dl → Prop) → Prop
  | _, racc, [], _, K => K racc.reverse
  | i, racc, x :: xs, ds :: dss, K => ∃ dl, Loc C (pickSR ds i racc ++ sl) (pickHR ds i racc ++ own) x dl ∧ AXR C sl own (i + 1) (dl :: racc) xs dss K
  | _, _, _ :: _, [], _ => False
theorem axr_out {C : Cx} {sl : List (Nat × AV)} {own : List (Nat × OB)} {K : List Dl → Prop} : ∀ {xs : List XI} {dss : List (List Nat)} {i : Nat} {racc : List Dl}, i = racc.length → AXR C sl own i racc xs dss K →
    ∃ more : List Dl, K (racc.reverse ++ more) ∧ more.length = xs.length ∧ ∀ (j : Nat) (x : XI), xs[j]? = some x → ∃ dl ds slv ownv, more[j]? = some dl ∧ dss[j]? = some ds ∧ Loc C slv ownv x dl ∧
      (∀ t y, get slv t = some y → (∃ m z, (racc.reverse ++ more)[m]? = some z ∧ membN m ds = true ∧ z.d = t ∧ z.r = y) ∨ get sl t = some y) ∧
      (∀ e ob, get ownv e = some ob → (∃ m z, (racc.reverse ++ more)[m]? = some z ∧ membN m ds = true ∧ get z.h e = some ob) ∨ get own e = some ob)
  | [], dss, i, racc, _, h => ⟨[], by rw [List.append_nil]; simpa [AXR] using h, rfl, fun j x hx => by simp at hx⟩
  | y :: ys, ds :: dss, i, racc, hi, h => by
    obtain ⟨dl, h1, h2⟩ := h
    obtain ⟨more, h3, h4, h5⟩ := axr_out (by simp [hi]) h2
    have e : (dl :: racc).reverse ++ more = racc.reverse ++ dl :: more := by simp
    rw [e] at h3 h5
    refine ⟨dl :: more, h3, by simp [h4], fun j x hx => ?_⟩
    have left : ∀ (m : Nat) (z : Dl), racc.reverse[m]? = some z → (racc.reverse ++ dl :: more)[m]? = some z := fun m z hm => by
      rw [List.getElem?_append_left]
      · exact hm
      · rcases Nat.lt_or_ge m racc.reverse.length with h | h
        · exact h
        · rw [List.getElem?_eq_none h] at hm; cases hm
    cases j with
    | zero =>
      simp only [List.getElem?_cons_zero, Option.some.injEq] at hx
      subst hx
      refine ⟨dl, ds, _, _, rfl, rfl, h1, fun t y hy => ?_, fun e ob he => ?_⟩
      · rcases pickSR_of hi hy with ⟨m, z, h6, h7⟩ | h6
        · exact .inl ⟨m, z, left m z h6, h7⟩
        · exact .inr h6
      · rcases pickHR_of hi he with ⟨m, z, h6, h7⟩ | h6
        · exact .inl ⟨m, z, left m z h6, h7⟩
        · exact .inr h6
    | succ j =>
      obtain ⟨d', ds', sv, ov, h6, h7, h8, h9, h10⟩ := h5 j x (by simpa using hx)
      exact ⟨d', ds', sv, ov, by simpa using h6, by simpa using h7, h8, h9, h10⟩
  | _ :: _, [], _, _, _, h => h.elim

/-- One operation of the head, wherever it comes. -/
theorem loc_step {C : Cx} {deps : List (List Nat)} {sl slv : List (Nat × AV)} {own ownv : List (Nat × OB)} {acc : List Dl} {i : Nat} {x : XI} {dl : Dl} {ds : List Nat} (g1 : accOK deps sl own acc = true) (hdl : acc[i]? = some dl) (hds : deps[i]? = some ds)
    (hloc : Loc C slv ownv x dl)
    (hv1 : ∀ t y, get slv t = some y → (∃ m z, acc[m]? = some z ∧ membN m ds = true ∧ z.d = t ∧ z.r = y) ∨ get sl t = some y)
    (hv2 : ∀ e ob, get ownv e = some ob → (∃ m z, acc[m]? = some z ∧ membN m ds = true ∧ get z.h e = some ob) ∨ get own e = some ob)
    (L : Nat → Bool) (hil : L i = false) (hdep : ∀ j, depOf deps i j = true → L j = true)
    (hcl : ∀ j m, L j = true → depOf deps j m = true → L m = true) :
    AXI C false [] [x] (stL sl own acc L) (fun st' => ∀ a w, Sat C st' a w → Sat C (stL sl own acc (fun j => Nat.beq i j || L j)) a w) := by
  have hmd : ∀ m, membN m ds = depOf deps i m := fun m => by unfold depOf; rw [hds]
  unfold accOK at g1
  simp only [Bool.and_eq_true] at g1
  obtain ⟨⟨⟨⟨⟨a1, a2⟩, a3⟩, a4⟩, a5⟩, a6⟩ := g1
  have hax := hloc (stL sl own acc L).sl (stL sl own acc L).own
    (fun t y hy => pickS_mk a1 a2 (by
      rcases hv1 t y hy with ⟨j, z, q1, q2, q3, q4⟩ | q
      · rw [hmd] at q2
        exact .inl ⟨j, z, q1, by rw [Nat.zero_add]; exact hdep j q2, q3, q4⟩
      · exact .inr q))
    (fun e ob he => pickH_mk a3 a4 (by
      rcases hv2 e ob he with ⟨j, z, q1, q2, q3⟩ | q
      · rw [hmd] at q2
        exact .inl ⟨j, z, q1, by rw [Nat.zero_add]; exact hdep j q2, q3⟩
      · exact .inr q))
    (freeN_mk (ns_distinct a3 hdl).1 (fun k hk => by
      obtain ⟨b1, b2, b3⟩ := nsOK_spec a5 ((ns_distinct a3 hdl).2 k hk)
      have hspec := indepB_spec (i := 0) a6 hdl
      rw [Nat.zero_add] at hspec
      have hind : ∀ j y, acc[j]? = some y → L j = true → nrA k y.r = true ∧ nrOs k y.h = true := fun j y hy hL => by
        refine indepI_spec (j := 0) (k := j) hspec hy ?_ ?_ k hk
        · rw [Nat.zero_add]; rintro rfl; rw [hil] at hL; cases hL
        · rw [Nat.zero_add]
          cases hh : depOf deps j i with
          | false => rfl
          | true => have := hcl j i hL hh; rw [hil] at this; cases this
      refine ⟨b1, ?_, ?_⟩
      · show nrS k (pickS _ 0 acc ++ sl) = true
        rw [nrS_append, b2, Bool.and_true]
        exact nrS_pick fun j y hy hL => (hind j y hy (by rw [Nat.zero_add] at hL; exact hL)).1
      · show nrOs k (pickH _ 0 acc ++ own) = true
        rw [nrOs_append, b3, Bool.and_true]
        exact nrOs_pick fun j y hy hL => (hind j y hy (by rw [Nat.zero_add] at hL; exact hL)).2))
  refine hax.mono (fun st' hK a w S' => ?_)
  obtain ⟨β, S'⟩ := S'
  obtain ⟨u1, u2⟩ := hK
  refine ⟨β, S'.le (fun t y hy => u1 t y ?_) (fun e ob he => u2 e ob ?_)⟩
  · rcases pickS_of hy with ⟨j, z, q1, q2, q3, q4⟩ | q
    · rw [Nat.zero_add, Bool.or_eq_true] at q2
      by_cases hij : i = j
      · subst hij
        rw [hdl] at q1; cases q1
        rw [get_cons, if_pos q3, q4]
      · have hL : L j = true := by
          rcases q2 with q2 | q2
          · exact absurd (Nat.eq_of_beq_eq_true q2) hij
          · exact q2
        have := ds_ne a1 hdl q1 hij
        rw [get_cons, if_neg (fun he => this (by rw [he, q3]))]
        exact pickS_mk a1 a2 (.inl ⟨j, z, q1, by rw [Nat.zero_add]; exact hL, q3, q4⟩)
    · rw [get_cons, if_neg (fun he => by
        rw [← he, frS_mem a2 dl.d (List.mem_map_of_mem (List.mem_of_getElem? hdl))] at q; cases q)]
      exact pickS_mk a1 a2 (.inr q)
  · rcases pickH_of he with ⟨j, z, q1, q2, q3⟩ | q
    · rw [Nat.zero_add, Bool.or_eq_true] at q2
      by_cases hij : i = j
      · subst hij
        rw [hdl] at q1; cases q1
        rw [get_append, q3]
      · have hL : L j = true := by
          rcases q2 with q2 | q2
          · exact absurd (Nat.eq_of_beq_eq_true q2) hij
          · exact q2
        have hnn : get dl.h e = none := by
          cases hg : get dl.h e with
          | none => rfl
          | some q' => exact absurd (get_mem_fst q3) (ns_ne a3 hdl q1 hij e (get_mem_fst hg))
        rw [get_append, hnn]
        exact pickH_mk a3 a4 (.inl ⟨j, z, q1, by rw [Nat.zero_add]; exact hL, q3⟩)
    · have hnn : get dl.h e = none := by
        cases hg : get dl.h e with
        | none => rfl
        | some q' =>
          have := noneIn_mem a4 ((ns_distinct a3 hdl).2 e (get_mem_fst hg))
          rw [this] at q; cases q
      rw [get_append, hnn]
      exact pickH_mk a3 a4 (.inr q)

/-- A single step of a text. -/
theorem step_of {C : Cx} {ops : Array Oper} {x : XI} {st : St} {K : St → Prop} {i : Nat} (hax : AXI C false [] [x] st K) (hfit : fitIs C.P C.n ops [] 0 [x] i = some (i + 1)) {Qx : Exit → Act → World → Prop} {a : Act} {w : World} (S : Sat C st a w)
    (H : ∀ st' a' w', K st' → Sat C st' a' w' → Qx .normal a' w') : wpOp C.P ops Qx i (Qx .normal) a w := by
  have hrun := hax ops _ (Rn.text C ops Qx) 0 i (i + 1) hfit [] a w S (fun g hg => by cases hg) (fun st' a' w' _ hK S' _ => H st' a' w' hK S')
  rw [show i + 1 - i = 1 from by omega, List.append_nil, show List.range' i 1 = [i] from rfl, Go.wpOps_cons] at hrun
  exact hrun
theorem guard_erase {P : Program} {ops : Array Oper} {Q : Exit → Act → World → Prop} {i : Nat} {o : Oper} {K : Act → World → Prop} {a : Act} {w : World} (ho : ops[i]? = some o) (hw : Region.wanted o (yielded ops a.tmps) = true)
    (h : wpOp P (ops.setIfInBounds i { o with guard := none }) Q i K a w) : wpOp P ops Q i K a w := by
  have hi : i < ops.size := (Array.getElem?_eq_some_iff.1 ho).1
  have h1 : (ops.setIfInBounds i { o with guard := none })[i]? = some { o with guard := none } := by simp [hi]
  unfold wpOp at h ⊢
  rw [h1] at h
  rw [ho]
  simp only [hw, if_true]
  have hw2 : Region.wanted { o with guard := none } (yielded (ops.setIfInBounds i { o with guard := none }) a.tmps) = true := rfl
  simp only [hw2, if_true] at h
  exact h
theorem fit_erase {P : Program} {n : Nat} {ops : Array Oper} {g : Gd} {lo i : Nat} {x : XI} {o : Oper} (hx : notAndor x = true) (ho : ops[i]? = some o) (h : fitI P n ops [g] lo x i = some (i + 1)) :
    fitIs P n (ops.setIfInBounds i { o with guard := none }) [] 0 [x] i = some (i + 1) ∧ guardIs o [g] = true := by
  have hi : i < ops.size := (Array.getElem?_eq_some_iff.1 ho).1
  have h1 : (ops.setIfInBounds i { o with guard := none })[i]? = some { o with guard := none } := by simp [hi]
  have hdf : ∀ d, dstFree n [g] d = true → dstFree n [] d = true := fun d hd => by
    cases d with
    | none => rfl
    | some k => simp only [dstFree, Bool.and_eq_true] at hd ⊢; exact ⟨hd.1, rfl⟩
  have hdst : ∀ d : Option Nat, dstIs d d = true := fun d => by cases d <;> simp [dstIs]
  cases x with
  | andor => cases hx
  | op d x =>
    obtain ⟨o', ho', hg, hd, hfr, hx', _⟩ := op_fit h
    rw [ho] at ho'; cases ho'
    refine ⟨?_, hg⟩
    obtain ⟨dst, op, ty, pos, after, guard⟩ := o
    dsimp only at hd; subst hd
    have hx2 : fits P { dst := dst, op := op, type := ty, pos := pos, after := after, guard := none } x = true := by cases x <;> exact hx'
    have e : fitI P n (ops.setIfInBounds i { dst := dst, op := op, type := ty, pos := pos, after := after, guard := none }) [] 0 (.op dst x) i = some (i + 1) := by
      rw [fitI, h1]
      dsimp only [guardIs]
      rw [hdst, hdf _ hfr, hx2]; rfl
    rw [fitIs, e]; rfl
  | call d f args =>
    obtain ⟨o', as, ts, ho', hop, hg, hd, hfr, hb, hx', _⟩ := call_fit h
    rw [ho] at ho'; cases ho'
    refine ⟨?_, hg⟩
    obtain ⟨dst, op, ty, pos, after, guard⟩ := o
    dsimp only at hd hop; subst hd; subst hop
    have e : fitI P n (ops.setIfInBounds i { dst := dst, op := .call { callee := .value (.func f), args := as, argTypes := ts }, type := ty, pos := pos, after := after, guard := none }) [] 0 (.call dst f args) i = some (i + 1) := by
      rw [fitI, h1]
      dsimp only [guardIs]
      rw [hdst, hdf _ hfr, hb, hx', Nat.beq_refl]; rfl
    rw [fitIs, e]; rfl
  | callv d y args =>
    obtain ⟨o', y', as, ts, ho', hop, hg, hd, hfr, hy, hfx, _⟩ := callv_fit h
    rw [ho] at ho'; cases ho'
    refine ⟨?_, hg⟩
    obtain ⟨dst, op, ty, pos, after, guard⟩ := o
    dsimp only at hd hop; subst hd; subst hop
    have e : fitI P n (ops.setIfInBounds i { dst := dst, op := .call { callee := .value y', args := as, argTypes := ts }, type := ty, pos := pos, after := after, guard := none }) [] 0 (.callv dst y args) i = some (i + 1) := by
      rw [fitI, h1]
      dsimp only [guardIs]
      rw [hdst, hdf _ hfr, hy, hfx]; rfl
    rw [fitIs, e]; rfl

theorem skip_step {C : Cx} {ops : Array Oper} {g : Gd} {lo i : Nat} {x : XI} (hx : notAndor x = true) (hfit : fitI C.P C.n ops [g] lo x i = some (i + 1)) (hj : (ops[g.j]?).bind (·.dst) = some g.c) {st : St} {t : Bool}
    (hc : get st.sl g.c = some (.d (.bool t))) (htb : t ≠ g.b) (hfr : ∀ d ∈ dstsI x, get st.sl d = none) {Qx : Exit → Act → World → Prop} {a : Act} {w : World} (S : Sat C st a w) (H : ∀ a' w', Sat C st a' w' → Qx .normal a' w') :
    wpOp C.P ops Qx i (Qx .normal) a w := by
  have hfit' : fitI C.P C.n ops [g] i x i = some (i + 1) := by
    cases x with
    | andor => cases hx
    | op d x => exact hfit
    | call d f args => exact hfit
    | callv d y args => exact hfit
  obtain ⟨β, S⟩ := S
  have hct : a.tmps[g.c]? = some (.bool t) := by
    have := S.slots g.c _ hc
    rw [AR, DR] at this
    exact getD_eq this (by simp [undef])
  have hrun := skipI x g [] i i (i + 1) hfit' _ (Rn.text C ops Qx).skip [] a w S.tsize ⟨hj, by rw [hct]; simp [htb]⟩ (fun q h1 h2 => by omega) (fun a' s' U' => by
    have same : ∀ t' x', get st.sl t' = some x' → a'.tmps[t']? = a.tmps[t']? := fun t' x' hx => by
      rcases s'.slot t' with h5 | ⟨h5, _⟩
      · exact h5
      · rw [hfr t' h5] at hx; cases hx
    have S2 : SatB C st a' w β := {
      tsize := s'.size.trans S.tsize
      df := s'.df.trans S.df
      slots := fun t' x' hx => by
        rw [Array.getD_eq_getD_getElem?, same t' x' hx, ← Array.getD_eq_getD_getElem?]
        exact S.slots t' x' hx
      hr := S.hr
      mine := S.mine
      stay := S.stay
      fr := S.fr
      xlt := S.xlt }
    exact H a' w ⟨β, S2⟩)
  rw [show i + 1 - i = 1 from by omega, List.append_nil, show List.range' i 1 = [i] from rfl, Go.wpOps_cons] at hrun
  exact hrun
theorem fitIs_grow {P : Program} {n : Nat} {ops : Array Oper} {gs : List Gd} {lo : Nat} : ∀ (ys : List XI) (m k : Nat), fitIs P n ops gs lo ys m = some k → m + ys.length ≤ k
  | [], m, k, h => by rw [fitIs] at h; cases h; simp
  | y :: ys, m, k, h => by
    obtain ⟨m', h1, h2, h3, h4⟩ := fitIs_cons h
    have := fitIs_grow ys m' k h2
    simp only [List.length_cons]; omega
theorem fitIs_eachG {P : Program} {n : Nat} {ops : Array Oper} {gs : List Gd} {lo : Nat} : ∀ {xs : List XI} {i : Nat}, fitIs P n ops gs lo xs i = some (i + xs.length) → ∀ j x, xs[j]? = some x → fitI P n ops gs lo x (i + j) = some (i + j + 1)
  | [], i, h, j, x, hx => by simp at hx
  | y :: ys, i, h, j, x, hx => by
    obtain ⟨m, h1, h2, h3, h4⟩ := fitIs_cons h
    have h5 := fitIs_grow ys m _ h2
    simp only [List.length_cons] at h2 h5
    obtain rfl : m = i + 1 := by omega
    cases j with
    | zero =>
      simp only [List.getElem?_cons_zero, Option.some.injEq] at hx
      subst hx; exact h1
    | succ j =>
      have := fitIs_eachG (i := i + 1) (xs := ys) (by rw [h2]; congr 1; omega) j x (by simpa using hx)
      rw [show i + (j + 1) = i + 1 + j from by omega]; exact this
theorem dsts_mem : ∀ {xs : List XI} {j d : Nat} {x : XI}, xs[j]? = some x → d ∈ dstsI x → d ∈ dstsL xs
  | y :: ys, 0, d, x, h, hd => by
    simp only [List.getElem?_cons_zero, Option.some.injEq] at h
    subst h; rw [dstsL]; exact List.mem_append_left _ hd
  | y :: ys, j + 1, d, x, h, hd => by rw [dstsL]; exact List.mem_append_right _ (dsts_mem (by simpa using h) hd)
/-- What is ahead yields 't'; where that is what the group wants, it runs in any order, else it is passed over. -/
theorem cx_drawC {C : Cx} {Kn Kr : Kont} {Ke : List (Nat × Kont)} {deps : List (List Nat)} {pre hd tl : List XI} {j c : Nat} {b t : Bool} {sl : List (Nat × AV)} {own : List (Nat × OB)}
    (h1 : t = b → AXR C sl own 0 [] (pre ++ hd) deps (fun acc => (accOK deps sl own acc = true ∧ acc[j]? = some ⟨c, .d (.bool t), []⟩) ∧ AXI C false [] tl (stL sl own acc (fun _ => true)) Kn))
    (h2 : t ≠ b → AXR C sl own 0 [] pre deps (fun acc => ((accOK deps sl own acc = true ∧ acc[j]? = some ⟨c, .d (.bool t), []⟩) ∧ frS (dstsL hd) sl = true ∧ (dstsL hd).all (fun d => !memb d (acc.map Dl.d)) = true) ∧ AXI C false [] tl (stL sl own acc (fun _ => true)) Kn)) :
    AX C (.drawC deps pre hd tl j b c) ⟨sl, own⟩ Kn Ke Kr := by
  intro code hf a w S
  simp only [fitsC] at hf
  split at hf
  · rename_i id ops
    unfold fitsDC at hf
    split at hf
    · rename_i q hq
      split at hf
      · rename_i m hm
        simp only [Bool.and_eq_true] at hf
        obtain ⟨⟨⟨⟨⟨⟨⟨⟨⟨f1, f2⟩, f3⟩, f4⟩, f5⟩, f6⟩, f7⟩, f8⟩, f9⟩, f10⟩ := hf
        have f1 := Nat.eq_of_beq_eq_true f1
        have f2 := Nat.eq_of_beq_eq_true f2
        have f3 := Nat.le_of_ble_eq_true f3
        have f5 : (ops[j]?).bind (·.dst) = some c := dstIs_eq f5
        have f7 := sizeIs_eq f7
        have hns : m ≤ ops.size := fitIs_le _ _ _ _ _ _ _ _ f7
        have hpre : ∀ i x, pre[i]? = some x → fitIs C.P C.n ops [] 0 [x] i = some (i + 1) := fun i x hx => by
          have := fitIs_each (xs := pre) (i := 0) (by rw [hq, f1, Nat.zero_add]) i x hx
          rwa [Nat.zero_add] at this
        have hhd : ∀ i x, hd[i]? = some x → fitI C.P C.n ops [⟨j, b, c⟩] q x (q + i) = some (q + i + 1) ∧ notAndor x = true := fun i x hx =>
          ⟨fitIs_eachG (xs := hd) (i := q) (by rw [hm, f2]) i x hx, List.all_eq_true.1 f6 x (List.mem_of_getElem? hx)⟩
        have hdj : ∀ i, i < hd.length → depOf deps (q + i) j = true := fun i hi => by
          have := List.all_eq_true.1 f10 (q + i) (List.mem_range'_1.2 ⟨by omega, by omega⟩)
          exact this
        have hslot : ∀ {acc : List Dl} {L : Nat → Bool} {a : Act} {w : World}, accOK deps sl own acc = true → acc[j]? = some ⟨c, .d (.bool t), []⟩ → L j = true → get (stL sl own acc L).sl c = some (.d (.bool t)) := fun {acc L a w} g1 gj hLj => by
          unfold accOK at g1
          simp only [Bool.and_eq_true] at g1
          exact pickS_mk g1.1.1.1.1.1 g1.1.1.1.1.2 (.inl ⟨j, _, gj, by rw [Nat.zero_add]; exact hLj, rfl, rfl⟩)
        have hS0 : ∀ acc : List Dl, Sat C (stL sl own acc (fun _ => false)) a { w with drawn := w.drawn + 1 } := fun acc => by
          have e : stL sl own acc (fun _ => false) = ⟨sl, own⟩ := by unfold stL; rw [pickS_none, pickH_none]; rfl
          rw [e]; exact S.ext (Ext.drew w)
        refine wp_region_any f8 ?_
        by_cases htb : t = b
        · obtain ⟨acc, ⟨⟨g1, gj⟩, g2⟩, g3, g4⟩ := axr_out (i := 0) (racc := []) rfl (h1 htb)
          simp only [List.reverse_nil, List.nil_append] at g1 gj g2 g4
          have hal : acc.length = m := by rw [g3, List.length_append]; omega
          refine region_core f9 hns (stL sl own acc) (fun L L' hLL => ?_) (fun i hi L hLi hdep hcl Qx a' w' S' H => ?_) (fun a' w' S' => ?_) a _ (hS0 acc)
          · unfold stL
            rw [pickS_congr (i := 0) (L := L) (L' := L') (fun k hk => by rw [Nat.zero_add]; exact hLL k (by omega)), pickH_congr (i := 0) (L := L) (L' := L') (fun k hk => by rw [Nat.zero_add]; exact hLL k (by omega))]
          · rcases Nat.lt_or_ge i q with hiq | hiq
            · obtain ⟨x, hx⟩ : ∃ x, pre[i]? = some x := ⟨pre[i]'(by omega), by simp [show i < pre.length from by omega]⟩
              obtain ⟨dl, ds, slv, ownv, hdl, hds, hloc, hv1, hv2⟩ := g4 i x (by rw [List.getElem?_append_left (by omega)]; exact hx)
              exact step_of (loc_step g1 hdl hds hloc hv1 hv2 L hLi hdep hcl) (hpre i x hx) S' (fun st' a2 w2 hK S2 => H a2 w2 (hK a2 w2 S2))
            · obtain ⟨k, rfl⟩ : ∃ k, i = q + k := ⟨i - q, by omega⟩
              obtain ⟨x, hx⟩ : ∃ x, hd[k]? = some x := ⟨hd[k]'(by omega), by simp [show k < hd.length from by omega]⟩
              obtain ⟨dl, ds, slv, ownv, hdl, hds, hloc, hv1, hv2⟩ := g4 (q + k) x (by rw [List.getElem?_append_right (by omega), show q + k - pre.length = k from by omega]; exact hx)
              obtain ⟨hfit, hna⟩ := hhd k x hx
              obtain ⟨o, ho⟩ : ∃ o, ops[q + k]? = some o := ⟨ops[q + k]'(by omega), by simp [show q + k < ops.size from by omega]⟩
              obtain ⟨hfit1, hg⟩ := fit_erase hna ho hfit
              have hsl := hslot (a := a') (w := w') g1 gj (hdep j (hdj k (by omega)))
              have hct : a'.tmps[c]? = some (.bool t) := by
                obtain ⟨β, S'⟩ := S'
                have := S'.slots c _ hsl
                rw [AR, DR] at this
                exact getD_eq this (by simp [undef])
              refine guard_erase ho (wanted_of hg (fun g hgm => ?_)) (step_of (loc_step g1 hdl hds hloc hv1 hv2 L hLi hdep hcl) hfit1 S' (fun st' a2 w2 hK S2 => H a2 w2 (hK a2 w2 S2)))
              rw [List.mem_singleton] at hgm
              subst hgm; subst htb
              exact ⟨f5, hct⟩
          · have := g2 ops _ (Rn.text C ops (lift C Kn Ke Kr)) 0 m ops.size f7 [] a' w' S' (fun g hg => by cases hg) (fun st' a2 w2 _ hK S2 _ => ⟨st', hK, S2⟩)
            simpa using this
        · obtain ⟨acc, ⟨⟨⟨g1, gj⟩, q1, q2⟩, g2⟩, g3, g4⟩ := axr_out (i := 0) (racc := []) rfl (h2 htb)
          simp only [List.reverse_nil, List.nil_append] at g1 gj q1 q2 g2 g4
          have hal : acc.length = q := by rw [g3]; omega
          refine region_core f9 hns (stL sl own acc) (fun L L' hLL => ?_) (fun i hi L hLi hdep hcl Qx a' w' S' H => ?_) (fun a' w' S' => ?_) a _ (hS0 acc)
          · unfold stL
            rw [pickS_congr (i := 0) (L := L) (L' := L') (fun k hk => by rw [Nat.zero_add]; exact hLL k (by omega)), pickH_congr (i := 0) (L := L) (L' := L') (fun k hk => by rw [Nat.zero_add]; exact hLL k (by omega))]
          · rcases Nat.lt_or_ge i q with hiq | hiq
            · obtain ⟨x, hx⟩ : ∃ x, pre[i]? = some x := ⟨pre[i]'(by omega), by simp [show i < pre.length from by omega]⟩
              obtain ⟨dl, ds, slv, ownv, hdl, hds, hloc, hv1, hv2⟩ := g4 i x hx
              exact step_of (loc_step g1 hdl hds hloc hv1 hv2 L hLi hdep hcl) (hpre i x hx) S' (fun st' a2 w2 hK S2 => H a2 w2 (hK a2 w2 S2))
            · obtain ⟨k, rfl⟩ : ∃ k, i = q + k := ⟨i - q, by omega⟩
              obtain ⟨x, hx⟩ : ∃ x, hd[k]? = some x := ⟨hd[k]'(by omega), by simp [show k < hd.length from by omega]⟩
              obtain ⟨hfit, hna⟩ := hhd k x hx
              have hsl := hslot (a := a') (w := w') g1 gj (hdep j (hdj k (by omega)))
              refine skip_step hna hfit f5 hsl htb (fun d hd' => ?_) S' (fun a2 w2 S2 => H a2 w2 ?_)
              · have hdm := dsts_mem hx hd'
                cases hgd : get (stL sl own acc L).sl d with
                | none => rfl
                | some y =>
                  exfalso
                  rcases pickS_of (L := L) (i := 0) (acc := acc) (sl := sl) hgd with ⟨j', z, p1, _, p3, _⟩ | p
                  · have h5 := List.all_eq_true.1 q2 d hdm
                    have h6 : memb d (acc.map Dl.d) = true := memb_iff.2 (by rw [← p3]; exact List.mem_map_of_mem (List.mem_of_getElem? p1))
                    rw [h6] at h5; cases h5
                  · rw [frS_mem q1 d hdm] at p; cases p
              · have e : stL sl own acc (fun j => Nat.beq (q + k) j || L j) = stL sl own acc L := by
                  have hne : ∀ j', j' < acc.length → (Nat.beq (q + k) j' || L j') = L j' := fun j' hj' => by
                    have : Nat.beq (q + k) j' = false := by
                      cases hb : Nat.beq (q + k) j' with
                      | false => rfl
                      | true => have := Nat.eq_of_beq_eq_true hb; omega
                    rw [this, Bool.false_or]
                  unfold stL
                  rw [pickS_congr (i := 0) (L' := L) (fun j' hj' => by rw [Nat.zero_add]; exact hne j' hj'), pickH_congr (i := 0) (L' := L) (fun j' hj' => by rw [Nat.zero_add]; exact hne j' hj')]
                rw [e]; exact S2
          · have := g2 ops _ (Rn.text C ops (lift C Kn Ke Kr)) 0 m ops.size f7 [] a' w' S' (fun g hg => by cases hg) (fun st' a2 w2 _ hK S2 _ => ⟨st', hK, S2⟩)
            simpa using this
      · cases hf
    · cases hf
  · cases hf

theorem bool_nf {b : Bool} (h : b ≠ false) : b = true := by cases b <;> simp_all
theorem bool_nt {b : Bool} (h : b ≠ true) : b = false := by cases b <;> simp_all
theorem loc_s2b {C : Cx} {slm : List (Nat × AV)} {ownm : List (Nat × OB)} {d : Nat} {x : XA} {l : List UInt8} (hx : evA slm x = some (.d (.str l))) : Loc C slm ownm (.op (some d) (.s2b x)) ⟨d, .osl d 1 0 l.length, [(d, .rows 1 (l.map byteRow))]⟩ := by
  intro sl own h1 h2 hf
  obtain ⟨f1, f2, f3⟩ := freeN_one hf
  exact ax_e (e_s2b (evA_mono h1 hx) f1 f2 f3) (ax_nil ⟨fun t y h => h, fun e ob h => h⟩)
end Go.AM

/- AM, part 44: a region that draws its order, in which one operation turns own blocks and another one writes a slot that is read ahead of it. -/
namespace Go.AM
theorem stepL {C : Cx} {deps : List (List Nat)} {sl : List (Nat × AV)} {own : List (Nat × OB)} {k dk : Nat} {p : Nat → Bool} {q : AV → Bool} {FN : List Nat} {hk : List (Nat × OB)} {acc : List Dl} (g1 : accG deps k FN hk sl own acc = true) (hkh : ∀ y, acc[k]? = some y → y.h = [])
    {i : Nat} {x : XI} {dl : Dl} {ds ts bd : List Nat} {slv : List (Nat × AV)} {ownv : List (Nat × OB)} (hdl : acc[i]? = some dl) (hds : deps[i]? = some ds) (hstep : StepG C k dk p q FN hk (membN k ds) (membN i (depsAt deps k)) i slv ownv ts bd x dl)
    (hv1 : ∀ t y, get slv t = some y → (∃ m z, acc[m]? = some z ∧ membN m ds = true ∧ z.d = t ∧ z.r = y) ∨ get sl t = some y)
    (hv2 : ∀ e ob, get ownv e = some ob → (∃ m z, acc[m]? = some z ∧ membN m ds = true ∧ get z.h e = some ob) ∨ get own e = some ob)
    (L : Nat → Bool) (hLi : L i = false) (hdep : ∀ j, depOf deps i j = true → L j = true) (hcl : ∀ j m, L j = true → depOf deps j m = true → L m = true) :
    AXI C false [] [x] (stG k dk p q hk sl own acc L) (fun st' => Wk C st' (stG k dk p q hk sl own acc (fun j => Nat.beq i j || L j))) := by
  unfold accG at g1
  simp only [Bool.and_eq_true] at g1
  obtain ⟨⟨⟨⟨⟨⟨⟨⟨⟨a1, a2⟩, a3⟩, a4⟩, a5⟩, a6⟩, a8⟩, b1⟩, b2⟩, b3⟩ := g1
  have a8 := Nat.le_of_ble_eq_true a8
  have hmd : ∀ m, membN m ds = depOf deps i m := fun m => by unfold depOf; rw [hds]
  rw [hmd k, ← depsAt_eq] at hstep
  -- the views
  have hvS : ∀ t y, get slv t = some y → get (pickS L 0 acc ++ sl) t = some y := fun t y hy => pickS_mk a1 a2 (by
    rcases hv1 t y hy with ⟨j, z, q1, q2, q3, q4⟩ | q0
    · rw [hmd] at q2
      exact .inl ⟨j, z, q1, by rw [Nat.zero_add]; exact hdep j q2, q3, q4⟩
    · exact .inr q0)
  have hvO : ∀ e ob, get ownv e = some ob → get (pickH L 0 acc ++ own) e = some ob := fun e ob he => pickH_mk a3 a4 (by
    rcases hv2 e ob he with ⟨j, z, q1, q2, q3⟩ | q0
    · rw [hmd] at q2
      exact .inl ⟨j, z, q1, by rw [Nat.zero_add]; exact hdep j q2, q3⟩
    · exact .inr q0)
  let L' : Nat → Bool := fun j => Nat.beq i j || L j
  have hLL' : ∀ j, L j = true → L' j = true := fun j hj => by show (Nat.beq i j || L j) = true; rw [hj, Bool.or_true]
  have hL'i : L' i = true := by show (Nat.beq i i || L i) = true; simp
  have hL'o : ∀ j, L' j = true → j ≠ i → L j = true := fun j hj hne => by
    have : (Nat.beq i j || L j) = true := hj
    rw [beq_ne (fun h => hne h.symm), Bool.false_or] at this; exact this
  have hS : ∀ t y, get (pickS L' 0 acc ++ sl) t = some y → (t = dl.d ∧ y = dl.r) ∨ (t ≠ dl.d ∧ get (pickS L 0 acc ++ sl) t = some y) := by
    intro t y hy
    rcases pickS_of hy with ⟨j, z, q1, q2, q3, q4⟩ | q0
    · rw [Nat.zero_add] at q2
      by_cases hij : j = i
      · subst hij; rw [hdl] at q1; cases q1; exact .inl ⟨q3.symm, q4.symm⟩
      · refine .inr ⟨fun he => ds_ne a1 hdl q1 (fun h => hij h.symm) (by rw [q3, he]), pickS_mk a1 a2 (.inl ⟨j, z, q1, by rw [Nat.zero_add]; exact hL'o j q2 hij, q3, q4⟩)⟩
    · refine .inr ⟨fun he => ?_, pickS_mk a1 a2 (.inr q0)⟩
      subst he
      rw [frS_mem a2 dl.d (List.mem_map_of_mem (List.mem_of_getElem? hdl))] at q0; cases q0
  have hO : ∀ e ob, get (pickH L' 0 acc ++ own) e = some ob → get dl.h e = some ob ∨ (get dl.h e = none ∧ get (pickH L 0 acc ++ own) e = some ob) := by
    intro e ob he
    rcases pickH_of he with ⟨j, z, q1, q2, q3⟩ | q1
    · rw [Nat.zero_add] at q2
      by_cases hij : j = i
      · subst hij; rw [hdl] at q1; cases q1; exact .inl q3
      · refine .inr ⟨?_, pickH_mk a3 a4 (.inl ⟨j, z, q1, by rw [Nat.zero_add]; exact hL'o j q2 hij, q3⟩)⟩
        cases hg : get dl.h e with
        | none => rfl
        | some o => exact absurd (get_mem_fst q3) (ns_ne a3 hdl q1 (fun h => hij h.symm) e (get_mem_fst hg))
    · refine .inr ⟨?_, pickH_mk a3 a4 (.inr q1)⟩
      cases hg : get dl.h e with
      | none => rfl
      | some o =>
        have := noneIn_mem a4 ((ns_distinct a3 hdl).2 e (get_mem_fst hg))
        rw [this] at q1; cases q1
  -- new names are free
  have hnr : ∀ (ns : List Nat), indepI deps i ns 0 (withK k hk 0 acc) = true → nsOK sl own ns = true → ∀ n ∈ ns, n < 1000 ∧ nrS n (pickS L 0 acc ++ sl) = true ∧ nrOs n (pickH L 0 acc ++ own) = true ∧ (L k = true → nrOs n hk = true) := by
    intro ns hi hn n hm
    obtain ⟨c1, c2, c3⟩ := nsOK_spec hn hm
    have hind : ∀ j y, acc[j]? = some y → L j = true → nrA n y.r = true ∧ nrOs n (bif Nat.beq j k then hk else y.h) = true := fun j y hy hL => by
      have := indepI_spec (j := 0) (k := j) hi (withK_get (i := 0) hy) (by rw [Nat.zero_add]; rintro rfl; rw [hLi] at hL; cases hL) (by
        rw [Nat.zero_add]
        cases hh : depOf deps j i with
        | false => rfl
        | true => have := hcl j i hL hh; rw [hLi] at this; cases this) n hm
      rw [Nat.zero_add] at this
      cases hb : Nat.beq j k with
      | true => rw [hb] at this; exact this
      | false => rw [hb] at this; exact this
    refine ⟨c1, ?_, ?_, fun hLk => ?_⟩
    · rw [nrS_append, c2, Bool.and_true]
      exact nrS_pick fun j y hy hL => (hind j y hy (by rw [Nat.zero_add] at hL; exact hL)).1
    · rw [nrOs_append, c3, Bool.and_true]
      refine nrOs_pick fun j y hy hL => ?_
      rw [Nat.zero_add] at hL
      have := (hind j y hy hL).2
      cases hb : Nat.beq j k with
      | false => rw [hb] at this; exact this
      | true =>
        have hjk := Nat.eq_of_beq_eq_true hb
        subst hjk
        rw [hkh y hy]; rfl
    · have := (hind k _ (by simp [show k < acc.length from a8]; rfl) hLk).2
      simpa using this
  show AXI C false [] [x] (stG k dk p q hk sl own acc L) (fun st' => Wk C st' (stG k dk p q hk sl own acc L'))
  rcases hstep with ⟨s1, sh, s2, s3⟩ | ⟨s1, slm, s2, s3, s5⟩
  · have s1 := Nat.eq_of_beq_eq_true s1
    have s2 := Nat.eq_of_beq_eq_true s2
    subst s1 s2
    have e1 : stG i dl.d p q hk sl own acc L = ⟨pickS L 0 acc ++ sl, pickH L 0 acc ++ own⟩ := by unfold stG; rw [hLi]; rfl
    have e2 : stG i dl.d p q hk sl own acc L' = ⟨fltS q dl.d (pickS L' 0 acc ++ sl), hk ++ pgOs p (pickH L' 0 acc ++ own)⟩ := by unfold stG; rw [hL'i]; rfl
    rw [e1, e2]
    refine (s3 _ _ hvS hvO (freeN_mk b1 (fun n hn => ⟨(hnr FN b3 b2 n hn).1, (hnr FN b3 b2 n hn).2.1, (hnr FN b3 b2 n hn).2.2.1⟩))).mono ?_
    rintro st' ⟨u1, u2, u3, u4⟩
    refine wk_le2 (fun t y hy => ?_) (fun e ob he => ?_)
    · rcases get_flt hy with rfl | ⟨h1, h2⟩
      · exact .inl rfl
      · rcases hS t y h1 with ⟨rfl, rfl⟩ | ⟨h3, h4⟩
        · exact u1
        · right
          rcases h2 with h2 | h2
          · exact absurd h2 h3
          · exact u2 t y h3 h4 h2
    · rcases get_app _ _ _ _ he with h1 | ⟨h1, h2⟩
      · exact u3 e ob h1
      · obtain ⟨ob0, h3, rfl⟩ := get_pgOs_of h2
        rcases hO e ob0 h3 with h4 | ⟨_, h4⟩
        · rw [sh] at h4; simp [get] at h4
        · exact u4 e ob0 h1 h4
  · have hik : i ≠ k := fun h => by subst h; simp at s1
    have hL'k : L' k = L k := by show (Nat.beq i k || L k) = L k; rw [s1, Bool.false_or]
    have hind : indepI deps i (dl.h.map Prod.fst) 0 (withK k hk 0 acc) = true := by
      have := indepB_spec (i := 0) a6 hdl
      rwa [Nat.zero_add] at this
    have hnsO : nsOK sl own (dl.h.map Prod.fst) = true := by
      have key : ∀ ns : List Nat, (∀ n ∈ ns, n ∈ allNs acc) → nsOK sl own ns = true := by
        intro ns
        induction ns with
        | nil => intro _; rfl
        | cons n ns ih =>
          intro hn
          obtain ⟨c1, c2, c3⟩ := nsOK_spec a5 (hn n List.mem_cons_self)
          rw [nsOK, c2, c3, ih (fun m hm => hn m (List.mem_cons_of_mem _ hm)), Nat.ble_eq_true_of_le c1]; rfl
      exact key _ (ns_distinct a3 hdl).2
    cases hLk : L k with
    | false =>
      have e1 : stG k dk p q hk sl own acc L = ⟨pickS L 0 acc ++ sl, pickH L 0 acc ++ own⟩ := by unfold stG; rw [hLk]; rfl
      have e2 : stG k dk p q hk sl own acc L' = ⟨pickS L' 0 acc ++ sl, pickH L' 0 acc ++ own⟩ := by unfold stG; rw [hL'k, hLk]; rfl
      rw [e1, e2]
      have hki : hkv (depOf deps i k) hk = [] := by
        unfold hkv
        cases hh : depOf deps i k with
        | false => rfl
        | true => have := hdep k hh; rw [hLk] at this; cases this
      rw [hki] at s5
      refine (s5 _ _ (fun t y hy => hvS t y (keepK_get s2 t y hy)) (fun e ob he => hvO e ob (outO_get he).2) (freeN_mk (ns_distinct a3 hdl).1 (fun n hn => ⟨(hnr _ hind hnsO n hn).1, (hnr _ hind hnsO n hn).2.1, (hnr _ hind hnsO n hn).2.2.1⟩))).mono ?_
      rintro st' ⟨u1, u2⟩
      refine wk_le2 (fun t y hy => .inr (u1 t y ?_)) (fun e ob he => u2 e ob ?_)
      · rcases hS t y hy with ⟨rfl, rfl⟩ | ⟨h3, h4⟩
        · exact get_cons_self _ _ _
        · rw [get_cons_ne _ _ (fun h => h3 h.symm)]; exact h4
      · rcases hO e ob he with h2 | ⟨h2, h3⟩
        · rw [get_append, h2]
        · rw [get_append, h2]; exact h3
    | true =>
      have e1 : stG k dk p q hk sl own acc L = ⟨fltS q dk (pickS L 0 acc ++ sl), hk ++ pgOs p (pickH L 0 acc ++ own)⟩ := by unfold stG; rw [hLk]; rfl
      have e2 : stG k dk p q hk sl own acc L' = ⟨fltS q dk (pickS L' 0 acc ++ sl), hk ++ pgOs p (pickH L' 0 acc ++ own)⟩ := by unfold stG; rw [hL'k, hLk]; rfl
      rw [e1, e2]
      have hdk : depOf deps k i = false := by
        cases hh : depOf deps k i with
        | false => rfl
        | true => have := hcl k i hLk hh; rw [hLi] at this; cases this
      rw [hdk] at s3
      obtain ⟨v1, v2, v3, v4, v5⟩ := s3.resolve_left (by simp)
      have hdis : ∀ e ob, get dl.h e = some ob → get hk e = none := fun e ob he => by
        cases hg : get hk e with
        | none => rfl
        | some o =>
          have := List.all_eq_true.1 v5 e (get_mem_fst he)
          rw [memb_iff.2 (get_mem_fst hg)] at this; cases this
      refine (s5 _ _ (fun t y hy => ?_) (fun e ob he => ?_) (freeN_mk (ns_distinct a3 hdl).1 (fun n hn => ?_))).mono ?_
      · have h1 := hvS t y (keepK_get s2 t y hy)
        rw [← v1] at hy
        rcases get_flt hy with rfl | ⟨_, h2⟩
        · rw [get_fltS, h1, Option.map_some]
          cases (Nat.beq t dk || q .dead) <;> rfl
        · exact flt_get h1 h2
      · have hob := allP_get v2 he
        obtain ⟨hb, he⟩ := outO_get he
        have hrest : get hk e = none → get ownv e = some ob → get (hk ++ pgOs p (pickH L 0 acc ++ own)) e = some ob := fun h1 h2 => by
          rw [get_append, h1, get_pgOs_some (hvO e ob h2), hob]
        unfold hkv at he
        cases hdk' : depOf deps i k with
        | true =>
          rw [hdk', cond_true] at he
          rcases get_app _ _ _ _ he with h1 | ⟨h1, h2⟩
          · rw [get_append, h1]
          · exact hrest h1 h2
        | false =>
          rw [hdk', cond_false, List.nil_append] at he
          refine hrest ?_ he
          rcases v3 with v3 | v3
          · rw [hdk'] at v3; cases v3
          · cases hg : get hk e with
            | none => rfl
            | some o => exact absurd (memb_iff.1 (List.all_eq_true.1 v3 e (get_mem_fst hg))) hb
      · obtain ⟨c1, c2, c3, c4⟩ := hnr _ hind hnsO n hn
        refine ⟨c1, nrS_flt c2, ?_⟩
        show nrOs n (hk ++ pgOs p (pickH L 0 acc ++ own)) = true
        rw [nrOs_append, c4 hLk, nrOs_pgOs c3]; rfl
      · rintro st' ⟨u1, u2⟩
        refine wk_le2 (fun t y hy => ?_) (fun e ob he => u2 e ob ?_)
        · rcases get_flt hy with rfl | ⟨h1, h2⟩
          · exact .inl rfl
          · right
            refine u1 t y ?_
            rcases hS t y h1 with ⟨rfl, rfl⟩ | ⟨h3, h4⟩
            · exact get_cons_self _ _ _
            · rw [get_cons_ne _ _ (fun h => h3 h.symm)]
              exact flt_get h4 h2
        · rcases get_app _ _ _ _ he with h1 | ⟨h1, h2⟩
          · have : get dl.h e = none := by
              cases hg : get dl.h e with
              | none => rfl
              | some o => rw [hdis e o hg] at h1; cases h1
            rw [get_append, this]
            show get (hk ++ _) e = some ob
            rw [get_append, h1]
          · obtain ⟨ob0, h3, rfl⟩ := get_pgOs_of h2
            rcases hO e ob0 h3 with h4 | ⟨h4, h5⟩
            · rw [get_append, h4, allP_get v4 h4]
            · rw [get_append, h4]
              show get (hk ++ _) e = _
              rw [get_append, h1]; exact get_pgOs_some h5
/-! Slots that hold on: by a choice of slots. -/
def flt2 (kp : Nat → Bool) (q : AV → Bool) : List (Nat × AV) → List (Nat × AV)
  | [] => []
  | (t, y) :: r => (t, bif kp t || q y then y else .dead) :: flt2 kp q r
theorem get_flt2 {kp : Nat → Bool} {q : AV → Bool} : ∀ (l : List (Nat × AV)) (t : Nat), get (flt2 kp q l) t = (get l t).map (fun y => bif kp t || q y then y else .dead)
  | [], _ => rfl
  | (k, y) :: r, t => by
    rw [flt2, get_cons, get_cons]
    split
    · rename_i h; subst h; rfl
    · exact get_flt2 r t
theorem get_flt2' {kp : Nat → Bool} {q : AV → Bool} {l : List (Nat × AV)} {t : Nat} {x : AV} (h : get (flt2 kp q l) t = some x) : x = .dead ∨ (get l t = some x ∧ (kp t = true ∨ q x = true)) := by
  rw [get_flt2] at h
  cases hg : get l t with
  | none => rw [hg] at h; cases h
  | some y =>
    rw [hg, Option.map_some, Option.some.injEq] at h
    cases hb : (kp t || q y) with
    | false => rw [hb] at h; exact .inl h.symm
    | true =>
      rw [hb, cond_true] at h
      subst h
      exact .inr ⟨rfl, by rw [Bool.or_eq_true] at hb; exact hb⟩
theorem flt2_get {kp : Nat → Bool} {q : AV → Bool} {l : List (Nat × AV)} {t : Nat} {x : AV} (h : get l t = some x) (hq : kp t = true ∨ q x = true) : get (flt2 kp q l) t = some x := by
  rw [get_flt2, h, Option.map_some]
  have : (kp t || q x) = true := by rw [Bool.or_eq_true]; exact hq
  rw [this]; rfl
theorem nrS_flt2 {n : Nat} {kp : Nat → Bool} {q : AV → Bool} : ∀ {l : List (Nat × AV)}, nrS n l = true → nrS n (flt2 kp q l) = true
  | [], _ => rfl
  | (k, y) :: r, h => by
    rw [nrS, Bool.and_eq_true] at h
    rw [flt2, nrS, Bool.and_eq_true]
    refine ⟨?_, nrS_flt2 h.2⟩
    cases (kp k || q y) with
    | true => exact h.1
    | false => rfl
def stB (kp p : Nat → Bool) (q : AV → Bool) (hk : List (Nat × OB)) (sl : List (Nat × AV)) (own : List (Nat × OB)) (acc : List Dl) (L : Nat → Bool) : St := ⟨flt2 kp q (pickS L 0 acc ++ sl), hk ++ pgOs p (pickH L 0 acc ++ own)⟩
theorem stepB {C : Cx} {deps : List (List Nat)} {sl : List (Nat × AV)} {own : List (Nat × OB)} {k dk : Nat} {kp p : Nat → Bool} {q : AV → Bool} {FN : List Nat} {hk : List (Nat × OB)} {acc : List Dl} (hkp : kp dk = true) (g1 : accG deps k FN hk sl own acc = true) (hkh : ∀ y, acc[k]? = some y → y.h = [])
    {i : Nat} {x : XI} {dl : Dl} {ds ts bd : List Nat} {slv : List (Nat × AV)} {ownv : List (Nat × OB)} (hdl : acc[i]? = some dl) (hds : deps[i]? = some ds) (hik : i ≠ k) (hstep : StepG C k dk p q FN hk (membN k ds) (membN i (depsAt deps k)) i slv ownv ts bd x dl)
    (hv1 : ∀ t y, get slv t = some y → (∃ m z, acc[m]? = some z ∧ membN m ds = true ∧ z.d = t ∧ z.r = y) ∨ get sl t = some y)
    (hv2 : ∀ e ob, get ownv e = some ob → (∃ m z, acc[m]? = some z ∧ membN m ds = true ∧ get z.h e = some ob) ∨ get own e = some ob)
    (L : Nat → Bool) (hLi : L i = false) (hLk : L k = true) (hdep : ∀ j, depOf deps i j = true → L j = true) (hcl : ∀ j m, L j = true → depOf deps j m = true → L m = true) :
    AXI C false [] [x] (stB kp p q hk sl own acc L) (fun st' => Wk C st' (stB kp p q hk sl own acc (fun j => Nat.beq i j || L j))) := by
  unfold accG at g1
  simp only [Bool.and_eq_true] at g1
  obtain ⟨⟨⟨⟨⟨⟨⟨⟨⟨a1, a2⟩, a3⟩, a4⟩, a5⟩, a6⟩, a8⟩, b1⟩, b2⟩, b3⟩ := g1
  have a8 := Nat.le_of_ble_eq_true a8
  have hmd : ∀ m, membN m ds = depOf deps i m := fun m => by unfold depOf; rw [hds]
  rw [hmd k, ← depsAt_eq] at hstep
  -- the views
  have hvS : ∀ t y, get slv t = some y → get (pickS L 0 acc ++ sl) t = some y := fun t y hy => pickS_mk a1 a2 (by
    rcases hv1 t y hy with ⟨j, z, q1, q2, q3, q4⟩ | q0
    · rw [hmd] at q2
      exact .inl ⟨j, z, q1, by rw [Nat.zero_add]; exact hdep j q2, q3, q4⟩
    · exact .inr q0)
  have hvO : ∀ e ob, get ownv e = some ob → get (pickH L 0 acc ++ own) e = some ob := fun e ob he => pickH_mk a3 a4 (by
    rcases hv2 e ob he with ⟨j, z, q1, q2, q3⟩ | q0
    · rw [hmd] at q2
      exact .inl ⟨j, z, q1, by rw [Nat.zero_add]; exact hdep j q2, q3⟩
    · exact .inr q0)
  let L' : Nat → Bool := fun j => Nat.beq i j || L j
  have hLL' : ∀ j, L j = true → L' j = true := fun j hj => by show (Nat.beq i j || L j) = true; rw [hj, Bool.or_true]
  have hL'i : L' i = true := by show (Nat.beq i i || L i) = true; simp
  have hL'o : ∀ j, L' j = true → j ≠ i → L j = true := fun j hj hne => by
    have : (Nat.beq i j || L j) = true := hj
    rw [beq_ne (fun h => hne h.symm), Bool.false_or] at this; exact this
  have hS : ∀ t y, get (pickS L' 0 acc ++ sl) t = some y → (t = dl.d ∧ y = dl.r) ∨ (t ≠ dl.d ∧ get (pickS L 0 acc ++ sl) t = some y) := by
    intro t y hy
    rcases pickS_of hy with ⟨j, z, q1, q2, q3, q4⟩ | q0
    · rw [Nat.zero_add] at q2
      by_cases hij : j = i
      · subst hij; rw [hdl] at q1; cases q1; exact .inl ⟨q3.symm, q4.symm⟩
      · refine .inr ⟨fun he => ds_ne a1 hdl q1 (fun h => hij h.symm) (by rw [q3, he]), pickS_mk a1 a2 (.inl ⟨j, z, q1, by rw [Nat.zero_add]; exact hL'o j q2 hij, q3, q4⟩)⟩
    · refine .inr ⟨fun he => ?_, pickS_mk a1 a2 (.inr q0)⟩
      subst he
      rw [frS_mem a2 dl.d (List.mem_map_of_mem (List.mem_of_getElem? hdl))] at q0; cases q0
  have hO : ∀ e ob, get (pickH L' 0 acc ++ own) e = some ob → get dl.h e = some ob ∨ (get dl.h e = none ∧ get (pickH L 0 acc ++ own) e = some ob) := by
    intro e ob he
    rcases pickH_of he with ⟨j, z, q1, q2, q3⟩ | q1
    · rw [Nat.zero_add] at q2
      by_cases hij : j = i
      · subst hij; rw [hdl] at q1; cases q1; exact .inl q3
      · refine .inr ⟨?_, pickH_mk a3 a4 (.inl ⟨j, z, q1, by rw [Nat.zero_add]; exact hL'o j q2 hij, q3⟩)⟩
        cases hg : get dl.h e with
        | none => rfl
        | some o => exact absurd (get_mem_fst q3) (ns_ne a3 hdl q1 (fun h => hij h.symm) e (get_mem_fst hg))
    · refine .inr ⟨?_, pickH_mk a3 a4 (.inr q1)⟩
      cases hg : get dl.h e with
      | none => rfl
      | some o =>
        have := noneIn_mem a4 ((ns_distinct a3 hdl).2 e (get_mem_fst hg))
        rw [this] at q1; cases q1
  -- new names are free
  have hnr : ∀ (ns : List Nat), indepI deps i ns 0 (withK k hk 0 acc) = true → nsOK sl own ns = true → ∀ n ∈ ns, n < 1000 ∧ nrS n (pickS L 0 acc ++ sl) = true ∧ nrOs n (pickH L 0 acc ++ own) = true ∧ (L k = true → nrOs n hk = true) := by
    intro ns hi hn n hm
    obtain ⟨c1, c2, c3⟩ := nsOK_spec hn hm
    have hind : ∀ j y, acc[j]? = some y → L j = true → nrA n y.r = true ∧ nrOs n (bif Nat.beq j k then hk else y.h) = true := fun j y hy hL => by
      have := indepI_spec (j := 0) (k := j) hi (withK_get (i := 0) hy) (by rw [Nat.zero_add]; rintro rfl; rw [hLi] at hL; cases hL) (by
        rw [Nat.zero_add]
        cases hh : depOf deps j i with
        | false => rfl
        | true => have := hcl j i hL hh; rw [hLi] at this; cases this) n hm
      rw [Nat.zero_add] at this
      cases hb : Nat.beq j k with
      | true => rw [hb] at this; exact this
      | false => rw [hb] at this; exact this
    refine ⟨c1, ?_, ?_, fun hLk => ?_⟩
    · rw [nrS_append, c2, Bool.and_true]
      exact nrS_pick fun j y hy hL => (hind j y hy (by rw [Nat.zero_add] at hL; exact hL)).1
    · rw [nrOs_append, c3, Bool.and_true]
      refine nrOs_pick fun j y hy hL => ?_
      rw [Nat.zero_add] at hL
      have := (hind j y hy hL).2
      cases hb : Nat.beq j k with
      | false => rw [hb] at this; exact this
      | true =>
        have hjk := Nat.eq_of_beq_eq_true hb
        subst hjk
        rw [hkh y hy]; rfl
    · have := (hind k _ (by simp [show k < acc.length from a8]; rfl) hLk).2
      simpa using this
  show AXI C false [] [x] (stB kp p q hk sl own acc L) (fun st' => Wk C st' (stB kp p q hk sl own acc L'))
  obtain ⟨s1, slm, s2, s3, s5⟩ : Nat.beq i k = false ∧ ∃ slm, keepK ts slv = some slm ∧ (depOf deps k i = true ∨ (fltS q dk slm = slm ∧ pgOs p (outO bd (hkv (depOf deps i k) hk ++ ownv)) = outO bd (hkv (depOf deps i k) hk ++ ownv) ∧
      (depOf deps i k = true ∨ (hk.map Prod.fst).all (fun n => memb n bd) = true) ∧ pgOs p dl.h = dl.h ∧ (dl.h.map Prod.fst).all (fun n => !memb n (hk.map Prod.fst)) = true)) ∧
    Loc C slm (outO bd (hkv (depOf deps i k) hk ++ ownv)) x dl := by
    rcases hstep with ⟨s1, _⟩ | h
    · exact absurd (Nat.eq_of_beq_eq_true s1) hik
    · exact h
  have hind : indepI deps i (dl.h.map Prod.fst) 0 (withK k hk 0 acc) = true := by
    have := indepB_spec (i := 0) a6 hdl
    rwa [Nat.zero_add] at this
  have hnsO : nsOK sl own (dl.h.map Prod.fst) = true := by
    have key : ∀ ns : List Nat, (∀ n ∈ ns, n ∈ allNs acc) → nsOK sl own ns = true := by
      intro ns
      induction ns with
      | nil => intro _; rfl
      | cons n ns ih =>
        intro hn
        obtain ⟨c1, c2, c3⟩ := nsOK_spec a5 (hn n List.mem_cons_self)
        rw [nsOK, c2, c3, ih (fun m hm => hn m (List.mem_cons_of_mem _ hm)), Nat.ble_eq_true_of_le c1]; rfl
    exact key _ (ns_distinct a3 hdl).2
  have hdk : depOf deps k i = false := by
    cases hh : depOf deps k i with
    | false => rfl
    | true => have := hcl k i hLk hh; rw [hLi] at this; cases this
  rw [hdk] at s3
  obtain ⟨v1, v2, v3, v4, v5⟩ := s3.resolve_left (by simp)
  have hdis : ∀ e ob, get dl.h e = some ob → get hk e = none := fun e ob he => by
    cases hg : get hk e with
    | none => rfl
    | some o =>
      have := List.all_eq_true.1 v5 e (get_mem_fst he)
      rw [memb_iff.2 (get_mem_fst hg)] at this; cases this
  refine (s5 _ _ (fun t y hy => ?_) (fun e ob he => ?_) (freeN_mk (ns_distinct a3 hdl).1 (fun n hn => ?_))).mono ?_
  · have h1 := hvS t y (keepK_get s2 t y hy)
    rw [← v1] at hy
    rcases get_flt hy with rfl | ⟨_, h2⟩
    · rw [get_flt2, h1, Option.map_some]
      cases (kp t || q .dead) <;> rfl
    · exact flt2_get h1 (h2.imp (fun e => by rw [e]; exact hkp) id)
  · have hob := allP_get v2 he
    obtain ⟨hb, he⟩ := outO_get he
    have hrest : get hk e = none → get ownv e = some ob → get (hk ++ pgOs p (pickH L 0 acc ++ own)) e = some ob := fun h1 h2 => by
      rw [get_append, h1, get_pgOs_some (hvO e ob h2), hob]
    unfold hkv at he
    cases hdk' : depOf deps i k with
    | true =>
      rw [hdk', cond_true] at he
      rcases get_app _ _ _ _ he with h1 | ⟨h1, h2⟩
      · rw [get_append, h1]
      · exact hrest h1 h2
    | false =>
      rw [hdk', cond_false, List.nil_append] at he
      refine hrest ?_ he
      rcases v3 with v3 | v3
      · rw [hdk'] at v3; cases v3
      · cases hg : get hk e with
        | none => rfl
        | some o => exact absurd (memb_iff.1 (List.all_eq_true.1 v3 e (get_mem_fst hg))) hb
  · obtain ⟨c1, c2, c3, c4⟩ := hnr _ hind hnsO n hn
    refine ⟨c1, nrS_flt2 c2, ?_⟩
    show nrOs n (hk ++ pgOs p (pickH L 0 acc ++ own)) = true
    rw [nrOs_append, c4 hLk, nrOs_pgOs c3]; rfl
  · rintro st' ⟨u1, u2⟩
    refine wk_le2 (fun t y hy => ?_) (fun e ob he => u2 e ob ?_)
    · rcases get_flt2' hy with rfl | ⟨h1, h2⟩
      · exact .inl rfl
      · right
        refine u1 t y ?_
        rcases hS t y h1 with ⟨rfl, rfl⟩ | ⟨h3, h4⟩
        · exact get_cons_self _ _ _
        · rw [get_cons_ne _ _ (fun h => h3 h.symm)]
          exact flt2_get h4 h2
    · rcases get_app _ _ _ _ he with h1 | ⟨h1, h2⟩
      · have : get dl.h e = none := by
          cases hg : get dl.h e with
          | none => rfl
          | some o => rw [hdis e o hg] at h1; cases h1
        rw [get_append, this]
        show get (hk ++ _) e = some ob
        rw [get_append, h1]
      · obtain ⟨ob0, h3, rfl⟩ := get_pgOs_of h2
        rcases hO e ob0 h3 with h4 | ⟨h4, h5⟩
        · rw [get_append, h4, allP_get v4 h4]
        · rw [get_append, h4]
          show get (hk ++ _) e = _
          rw [get_append, h1]; exact get_pgOs_some h5

def delS (s : Nat) : List (Nat × AV) → List (Nat × AV)
  | [] => []
  | (k, x) :: r => bif Nat.beq k s then delS s r else (k, x) :: delS s r
theorem get_delS {s t : Nat} {y : AV} : ∀ {l : List (Nat × AV)}, get (delS s l) t = some y → get l t = some y ∧ t ≠ s
  | [], h => by simp [delS, get] at h
  | (k, x) :: r, h => by
    rw [delS] at h
    cases hb : Nat.beq k s with
    | true =>
      rw [hb, cond_true] at h
      obtain ⟨h1, h2⟩ := get_delS h
      have := Nat.eq_of_beq_eq_true hb
      exact ⟨by rw [get_cons_ne _ _ (fun e => h2 (by omega))]; exact h1, h2⟩
    | false =>
      rw [hb, cond_false, get_cons] at h
      rw [get_cons]
      split at h
      · rename_i e; rw [if_pos e]
        exact ⟨h, fun e2 => by rw [e, e2] at hb; simp at hb⟩
      · rename_i e; rw [if_neg e]; exact get_delS h
/-- The operations ahead: what is needed by the w-th sees all slots, the rest do not see the one that it writes. -/
def AXGW (C : Cx) (k dk : Nat) (p : Nat → Bool) (q : AV → Bool) (FN : List Nat) (hk : List (Nat × OB)) (slF slD : List (Nat × AV)) (own : List (Nat × OB)) (dk' dw : List Nat) : Nat → List Dl → List XI → List (List Nat) → List (List Nat) → List (List Nat) → (List Dl → Prop) → Prop
  | _, racc, [], _, _, _, K => K racc.reverse
  | i, racc, x :: xs, ds :: dss, ts :: tss, bd :: bds, K => ∃ dl, StepG C k dk p q FN hk (membN k ds) (membN i dk') i (pickSR ds i racc ++ (bif membN i dw then slF else slD)) (pickHR ds i racc ++ own) ts bd x dl ∧ AXGW C k dk p q FN hk slF slD own dk' dw (i + 1) (dl :: racc) xs dss tss bds K
  | _, _, _, _, _, _, _ => False
theorem axgw_out {C : Cx} {k dk : Nat} {p : Nat → Bool} {q : AV → Bool} {FN : List Nat} {hk : List (Nat × OB)} {slF slD : List (Nat × AV)} {own : List (Nat × OB)} {dk' dw : List Nat} {K : List Dl → Prop} : ∀ {xs : List XI} {dss tss bds : List (List Nat)} {i : Nat} {racc : List Dl}, i = racc.length → AXGW C k dk p q FN hk slF slD own dk' dw i racc xs dss tss bds K →
    ∃ more : List Dl, K (racc.reverse ++ more) ∧ more.length = xs.length ∧ ∀ (j : Nat) (x : XI), xs[j]? = some x → ∃ dl ds ts bd slv ownv, more[j]? = some dl ∧ dss[j]? = some ds ∧ StepG C k dk p q FN hk (membN k ds) (membN (i + j) dk') (i + j) slv ownv ts bd x dl ∧
      (∀ t y, get slv t = some y → (∃ m z, (racc.reverse ++ more)[m]? = some z ∧ membN m ds = true ∧ z.d = t ∧ z.r = y) ∨ get (bif membN (i + j) dw then slF else slD) t = some y) ∧
      (∀ e ob, get ownv e = some ob → (∃ m z, (racc.reverse ++ more)[m]? = some z ∧ membN m ds = true ∧ get z.h e = some ob) ∨ get own e = some ob)
  | [], dss, tss, bds, i, racc, _, h => ⟨[], by rw [List.append_nil]; simpa [AXGW] using h, rfl, fun j x hx => by simp at hx⟩
  | y :: ys, ds :: dss, ts :: tss, bd :: bds, i, racc, hi, h => by
    obtain ⟨dl, h1, h2⟩ := h
    obtain ⟨more, h3, h4, h5⟩ := axgw_out (by simp [hi]) h2
    have e : (dl :: racc).reverse ++ more = racc.reverse ++ dl :: more := by simp
    rw [e] at h3 h5
    refine ⟨dl :: more, h3, by simp [h4], fun j x hx => ?_⟩
    have left : ∀ (m : Nat) (z : Dl), racc.reverse[m]? = some z → (racc.reverse ++ dl :: more)[m]? = some z := fun m z hm => by
      rw [List.getElem?_append_left]
      · exact hm
      · rcases Nat.lt_or_ge m racc.reverse.length with h | h
        · exact h
        · rw [List.getElem?_eq_none h] at hm; cases hm
    cases j with
    | zero =>
      simp only [List.getElem?_cons_zero, Option.some.injEq] at hx
      subst hx
      refine ⟨dl, ds, ts, bd, _, _, rfl, rfl, h1, fun t y hy => ?_, fun e ob he => ?_⟩
      · rcases pickSR_of hi hy with ⟨m, z, h6, h7⟩ | h6
        · exact .inl ⟨m, z, left m z h6, h7⟩
        · exact .inr h6
      · rcases pickHR_of hi he with ⟨m, z, h6, h7⟩ | h6
        · exact .inl ⟨m, z, left m z h6, h7⟩
        · exact .inr h6
    | succ j =>
      obtain ⟨d', ds', ts', bd', sv, ov, h6, h7, h8, h9, h10⟩ := h5 j x (by simpa using hx)
      rw [show i + 1 + j = i + (j + 1) from by omega] at h8 h9
      exact ⟨d', ds', ts', bd', sv, ov, by simpa using h6, by simpa using h7, h8, h9, h10⟩
  | _ :: _, [], _, _, _, _, _, h => h.elim
  | _ :: _, _ :: _, [], _, _, _, _, h => h.elim
  | _ :: _, _ :: _, _ :: _, [], _, _, _, h => h.elim
def hNil (o : Option Dl) : Bool := match o with | some ⟨_, _, []⟩ => true | _ => false
theorem hNil_of {o : Option Dl} (h : hNil o = true) : ∀ y, o = some y → y.h = [] := fun y hy => by
  subst hy; obtain ⟨d, r, hh⟩ := y
  cases hh with
  | nil => rfl
  | cons _ _ => simp [hNil] at h
def dIs (o : Option Dl) (s : Nat) : Bool := match o with | some y => Nat.beq y.d s | none => false
theorem dIs_of {o : Option Dl} {s : Nat} (h : dIs o s = true) : ∀ y, o = some y → y.d = s := fun y hy => by subst hy; exact Nat.eq_of_beq_eq_true h
def accW (deps : List (List Nat)) (k w s z : Nat) (FN : List Nat) (hk : List (Nat × OB)) (slF : List (Nat × AV)) (own : List (Nat × OB)) (acc : List Dl) : Bool :=
  accG deps k FN hk (delS s slF) own acc && accG deps k FN hk slF own (acc.set w ⟨z, .dead, []⟩) && hNil acc[k]? && dIs acc[w]? s && !Nat.beq w k && depOf deps w k
theorem cx_drawW {C : Cx} {Kn Kr : Kont} {Ke : List (Nat × Kont)} {deps : List (List Nat)} {hd tl : List XI} {slF : List (Nat × AV)} {own : List (Nat × OB)} (k dk w s z : Nat) (p : Nat → Bool) (q : AV → Bool) (FN : List Nat) (hk : List (Nat × OB)) (tss bds : List (List Nat)) {dk' dw slD} (hdk' : depsAt deps k = dk') (hdw : depsAt deps w = dw) (hslD : delS s slF = slD)
    (h : AXGW C k dk p q FN hk slF slD own dk' dw 0 [] hd deps tss bds (fun acc => accW deps k w s z FN hk slF own acc = true ∧ AXI C false [] tl (stB (fun t => Nat.beq t dk || Nat.beq t s) p q hk slD own acc (fun _ => true)) Kn)) : AX C (.drawE deps hd tl) ⟨slF, own⟩ Kn Ke Kr := by
  subst hslD
  obtain ⟨acc, ⟨g1, gt⟩, g3, g4⟩ := axgw_out (racc := []) (i := 0) rfl h
  simp only [List.reverse_nil, List.nil_append, Nat.zero_add] at g1 gt g4
  subst hdk'; subst hdw
  unfold accW at g1
  simp only [Bool.and_eq_true, Bool.not_eq_true'] at g1
  obtain ⟨⟨⟨⟨⟨gB, gA⟩, hk0⟩, hw0⟩, hwk⟩, hkw⟩ := g1
  have hwk : w ≠ k := fun e => by subst e; simp at hwk
  obtain ⟨dw_, hdw_⟩ : ∃ dw, acc[w]? = some dw := by
    cases hh : acc[w]? with
    | none => rw [hh] at hw0; simp [dIs] at hw0
    | some y => exact ⟨y, rfl⟩
  have hwl : w < acc.length := (List.getElem?_eq_some_iff.1 hdw_).1
  have hA_ne : ∀ m, m ≠ w → (acc.set w ⟨z, .dead, []⟩)[m]? = acc[m]? := fun m hm => by rw [List.getElem?_set, if_neg (Ne.symm hm)]
  have hA_w : (acc.set w ⟨z, .dead, []⟩)[w]? = some ⟨z, .dead, []⟩ := by rw [List.getElem?_set, if_pos rfl, if_pos hwl]
  have hkA : ∀ y, (acc.set w ⟨z, .dead, []⟩)[k]? = some y → y.h = [] := fun y hy => by
    rw [hA_ne k (Ne.symm hwk)] at hy; exact hNil_of hk0 y hy
  let stX : (Nat → Bool) → St := fun L => bif L w then stB (fun t => Nat.beq t dk || Nat.beq t s) p q hk (delS s slF) own acc L else stG k dk p q hk slF own (acc.set w ⟨z, .dead, []⟩) L
  have gB' := gB; have gA' := gA
  unfold accG at gB' gA'
  simp only [Bool.and_eq_true] at gB' gA'
  obtain ⟨⟨⟨⟨⟨⟨⟨⟨⟨a1, a2⟩, a3⟩, a4⟩, _⟩, _⟩, _⟩, _⟩, _⟩, _⟩ := gB'
  obtain ⟨⟨⟨⟨⟨⟨⟨⟨⟨c1, c2⟩, c3⟩, c4⟩, _⟩, _⟩, _⟩, _⟩, _⟩, _⟩ := gA'
  refine cx_drawG stX (fun L L' hLL => ?_) ?_ ?_ (by show AXI C false [] tl (stX (fun _ => true)) Kn; exact gt)
  · show (bif L w then _ else _) = (bif L' w then _ else _)
    have hkl : k < acc.length := by
      cases hh : acc[k]? with
      | none => rw [hh] at hk0; simp [hNil] at hk0
      | some y => exact (List.getElem?_eq_some_iff.1 hh).1
    rw [hLL w (by omega)]
    unfold stG stB
    rw [hLL k (by omega), pickS_congr (i := 0) (acc := acc) (L := L) (L' := L') (fun j hj => by rw [Nat.zero_add]; exact hLL j (by omega)), pickH_congr (i := 0) (acc := acc) (L := L) (L' := L') (fun j hj => by rw [Nat.zero_add]; exact hLL j (by omega)),
      pickS_congr (i := 0) (acc := acc.set w ⟨z, .dead, []⟩) (L := L) (L' := L') (fun j hj => by rw [Nat.zero_add]; exact hLL j (by rw [List.length_set] at hj; omega)), pickH_congr (i := 0) (acc := acc.set w ⟨z, .dead, []⟩) (L := L) (L' := L') (fun j hj => by rw [Nat.zero_add]; exact hLL j (by rw [List.length_set] at hj; omega))]
  · have : stX (fun _ => false) = ⟨slF, own⟩ := by
      show stG k dk p q hk slF own (acc.set w ⟨z, .dead, []⟩) (fun _ => false) = _
      unfold stG; rw [cond_false, pickS_none, pickH_none]; rfl
    rw [this]; exact fun _ _ S => S
  · intro i x hx L hLi hdep hcl
    obtain ⟨dl, ds, ts, bd, slv, ownv, hdl, hds, hstep, hv1, hv2⟩ := g4 i x hx
    have hmd : ∀ m, membN m ds = depOf deps i m := fun m => by unfold depOf; rw [hds]
    by_cases hiw : i = w
    · -- the writer
      subst hiw
      have eX : stX L = stG k dk p q hk slF own (acc.set i ⟨z, .dead, []⟩) L := by show (bif L i then _ else _) = _; rw [hLi]; rfl
      have eX' : stX (fun j => Nat.beq i j || L j) = stB (fun t => Nat.beq t dk || Nat.beq t s) p q hk (delS s slF) own acc (fun j => Nat.beq i j || L j) := by show (bif (Nat.beq i i || L i) then _ else _) = _; simp
      rw [eX, eX']
      have hLk : L k = true := hdep k hkw
      have hB := stepB (kp := fun t => Nat.beq t dk || Nat.beq t s) (by simp) gB (hNil_of hk0) hdl hds hwk hstep (fun t y hy => by
        rcases hv1 t y hy with h1 | h1
        · exact .inl h1
        · right
          have hself : membN i (depsAt deps i) = false := by
            rw [← depsAt_eq]
            cases hh : depOf deps i i with
            | false => rfl
            | true => have := hdep i hh; rw [hLi] at this; cases this
          rw [hself] at h1; exact h1) hv2 L hLi hLk hdep hcl
      have hs1 : ∀ t y, get (pickS L 0 acc ++ delS s slF) t = some y → get (pickS L 0 (acc.set i ⟨z, .dead, []⟩) ++ slF) t = some y ∧ t ≠ s := fun t y hy => by
        rcases pickS_of hy with ⟨j, v, q1, q2, q3, q4⟩ | q0
        · rw [Nat.zero_add] at q2
          have hji : j ≠ i := fun e => by subst e; rw [hLi] at q2; cases q2
          exact ⟨pickS_mk c1 c2 (.inl ⟨j, v, by rw [hA_ne j hji]; exact q1, by rw [Nat.zero_add]; exact q2, q3, q4⟩), fun e => ds_ne a1 q1 hdw_ hji (by rw [q3, e, dIs_of hw0 _ hdw_])⟩
        · exact ⟨pickS_mk c1 c2 (.inr (get_delS q0).1), (get_delS q0).2⟩
      have hs2 : ∀ e ob, get (pickH L 0 acc ++ own) e = some ob → get (pickH L 0 (acc.set i ⟨z, .dead, []⟩) ++ own) e = some ob := fun e ob he => pickH_mk c3 c4 (by
        rcases pickH_of he with ⟨j, v, q1, q2, q3⟩ | q0
        · rw [Nat.zero_add] at q2
          exact .inl ⟨j, v, by rw [hA_ne j (fun e => by subst e; rw [hLi] at q2; cases q2)]; exact q1, by rw [Nat.zero_add]; exact q2, q3⟩
        · exact .inr q0)
      have hW : Wk C (stG k dk p q hk slF own (acc.set i ⟨z, .dead, []⟩) L) (stB (fun t => Nat.beq t dk || Nat.beq t s) p q hk (delS s slF) own acc L) := by
        unfold stG stB
        rw [hLk]
        refine wk_le2 (fun t y hy => ?_) (fun e ob he => ?_)
        · rcases get_flt2' hy with rfl | ⟨h1, h2⟩
          · exact .inl rfl
          · obtain ⟨h3, h4⟩ := hs1 t y h1
            refine .inr (flt_get h3 (h2.imp (fun h => ?_) id))
            rw [Bool.or_eq_true] at h
            rcases h with h | h
            · exact Nat.eq_of_beq_eq_true h
            · exact absurd (Nat.eq_of_beq_eq_true h) h4
        · show get (hk ++ pgOs p (pickH L 0 (acc.set i ⟨z, .dead, []⟩) ++ own)) e = some ob
          have he : get (hk ++ pgOs p (pickH L 0 acc ++ own)) e = some ob := he
          rw [get_append] at he ⊢
          cases hg : get hk e with
          | some o => rw [hg] at he; exact he
          | none =>
            rw [hg] at he
            obtain ⟨ob0, h3, rfl⟩ := get_pgOs_of he
            exact get_pgOs_some (hs2 e ob0 h3)
      exact ax_wk hW hB
    · have hne : Nat.beq i w = false := by
        cases hb : Nat.beq i w with
        | false => rfl
        | true => exact absurd (Nat.eq_of_beq_eq_true hb) hiw
      cases hLw : L w with
      | true =>
        have eX : stX L = stB (fun t => Nat.beq t dk || Nat.beq t s) p q hk (delS s slF) own acc L := by show (bif L w then _ else _) = _; rw [hLw]; rfl
        have eX' : stX (fun j => Nat.beq i j || L j) = stB (fun t => Nat.beq t dk || Nat.beq t s) p q hk (delS s slF) own acc (fun j => Nat.beq i j || L j) := by show (bif (Nat.beq i w || L w) then _ else _) = _; rw [hLw, Bool.or_true]; rfl
        rw [eX, eX']
        have hLk : L k = true := hcl w k hLw hkw
        exact stepB (kp := fun t => Nat.beq t dk || Nat.beq t s) (by simp) gB (hNil_of hk0) hdl hds (fun e => by subst e; rw [hLi] at hLk; cases hLk) hstep (fun t y hy => by
          rcases hv1 t y hy with h1 | h1
          · exact .inl h1
          · right
            have hself : membN i (depsAt deps w) = false := by
              rw [← depsAt_eq]
              cases hh : depOf deps w i with
              | false => rfl
              | true => have := hcl w i hLw hh; rw [hLi] at this; cases this
            rw [hself] at h1; exact h1) hv2 L hLi hLk hdep hcl
      | false =>
        have eX : stX L = stG k dk p q hk slF own (acc.set w ⟨z, .dead, []⟩) L := by show (bif L w then _ else _) = _; rw [hLw]; rfl
        have eX' : stX (fun j => Nat.beq i j || L j) = stG k dk p q hk slF own (acc.set w ⟨z, .dead, []⟩) (fun j => Nat.beq i j || L j) := by show (bif (Nat.beq i w || L w) then _ else _) = _; rw [hne, hLw]; rfl
        rw [eX, eX']
        have hnw : ∀ m, membN m ds = true → m ≠ w := fun m hm e => by
          subst e; rw [hmd] at hm; have := hdep m hm; rw [hLw] at this; cases this
        exact stepL gA hkA (by rw [hA_ne i hiw]; exact hdl) hds hstep (fun t y hy => by
          rcases hv1 t y hy with ⟨m, v, q1, q2, q3⟩ | h1
          · exact .inl ⟨m, v, by rw [hA_ne m (hnw m q2)]; exact q1, q2, q3⟩
          · right
            cases hm : membN i (depsAt deps w) with
            | true => rw [hm] at h1; exact h1
            | false => rw [hm] at h1; exact (get_delS h1).1) (fun e ob he => by
          rcases hv2 e ob he with ⟨m, v, q1, q2, q3⟩ | h1
          · exact .inl ⟨m, v, by rw [hA_ne m (hnw m q2)]; exact q1, q2, q3⟩
          · exact .inr h1) L hLi hdep hcl
end Go.AM

/- Plain laws: records of a log, lists of a check. -/
namespace Go.AM
/-! The list of a check, as the program reads it. -/
def chkL (high lsn : Int) : Nat → Rd → Bool → Int → Bool × Rd
  | 0, r, ok, _ => (ok, r)
  | n + 1, r, ok, b => chkL high lsn n (numF (numF r).2).2 ((ok && inR (numF r).1 (b + 1) high) && inR (numF (numF r).2).1 1 (lsn - 1)) (numF r).1
def chkF (most low high lsn : Int) (r : Rd) : Bool × Rd :=
  let p := chkL high lsn (numF r).1 (numF r).2 (decide (((numF r).1 : Int) ≤ most)) (low - 1)
  (p.1 && !p.2.fail, p.2)
def isCheckF (t : Str) (lsn : Int) : Bool :=
  ((chkF 8 0 7 lsn ⟨t, false⟩).1 && (chkF 10 1 60 lsn (chkF 8 0 7 lsn ⟨t, false⟩).2).1) && doneF (chkF 10 1 60 lsn (chkF 8 0 7 lsn ⟨t, false⟩).2).2
theorem chkL_len {high lsn : Int} : ∀ {n : Nat} {r : Rd} {ok : Bool} {b : Int}, (chkL high lsn n r ok b).2.rest.length ≤ r.rest.length
  | 0, _, _, _ => Nat.le_refl _
  | n + 1, r, ok, b => by
    rw [chkL]
    exact Nat.le_trans chkL_len (Nat.le_trans numF_lt.2 numF_lt.2)
theorem chkF_len {most low high lsn : Int} {r : Rd} : (chkF most low high lsn r).2.rest.length ≤ r.rest.length := Nat.le_trans chkL_len numF_lt.2
/-! .. as pairs. -/
abbrev Pr := Nat × Nat
def prs : Nat → Str → Option (List Pr × Str)
  | 0, s => some ([], s)
  | n + 1, a :: b :: s => (prs n s).map (fun p => ((a.toNat, b.toNat) :: p.1, p.2))
  | _ + 1, _ => none
def readC (t : Str) : Option (List Pr × List Pr) :=
  match t with
  | [] => none
  | n :: s => match prs n.toNat s with
    | none => none
    | some (_, []) => none
    | some (l1, m :: s2) => match prs m.toNat s2 with
      | some (l2, []) => some (l1, l2)
      | _ => none
/-- They rise, and stand between. -/
def okL (high lsn : Int) : List Pr → Int → Bool
  | [], _ => true
  | p :: l, b => (inR p.1 (b + 1) high && inR p.2 1 (lsn - 1)) && okL high lsn l p.1
theorem numF_fail {s : Str} : numF ⟨s, true⟩ = (((s.take 1).getD 0 0).toNat, ⟨s.drop 1, true⟩) := by
  cases s with
  | nil => rfl
  | cons c s => unfold numF; rw [takeF_2 (by simp; omega)]
theorem numF_nil : numF ⟨[], false⟩ = (0, ⟨[], true⟩) := rfl
theorem chkL_fail {high lsn : Int} : ∀ {n : Nat} {r : Rd} {ok : Bool} {b : Int}, r.fail = true → (chkL high lsn n r ok b).2.fail = true
  | 0, _, _, _, h => h
  | n + 1, r, ok, b, h => by
    have hf : ∀ r : Rd, r.fail = true → (numF r).2.fail = true := fun r hr => by
      obtain ⟨s, f⟩ := r
      simp only at hr; subst hr; rw [numF_fail]
    rw [chkL]
    exact chkL_fail (hf _ (hf _ h))
theorem chkL_prs {high lsn : Int} : ∀ {n : Nat} {s : Str} {ok : Bool} {b : Int}, match prs n s with
    | none => (chkL high lsn n ⟨s, false⟩ ok b).2.fail = true
    | some (l, s') => chkL high lsn n ⟨s, false⟩ ok b = (ok && okL high lsn l b, ⟨s', false⟩) ∧ l.length = n
  | 0, s, ok, b => by simp [prs, chkL, okL]
  | n + 1, [], ok, b => by
    simp only [prs]
    rw [chkL, numF_nil]
    exact chkL_fail (by rw [numF_fail])
  | n + 1, [c], ok, b => by
    simp only [prs]
    rw [chkL, numF_cons, numF_nil]
    exact chkL_fail rfl
  | n + 1, c :: d :: s, ok, b => by
    simp only [prs]
    have ih := @chkL_prs high lsn n s ((ok && inR c.toNat (b + 1) high) && inR d.toNat 1 (lsn - 1)) c.toNat
    rw [chkL, numF_cons, numF_cons]
    cases hp : prs n s with
    | none => rw [hp] at ih; exact ih
    | some p =>
      obtain ⟨l, s'⟩ := p
      rw [hp] at ih
      simp only [Option.map_some] at ih ⊢
      refine ⟨?_, by rw [List.length_cons, ih.2]⟩
      rw [ih.1, okL]
      simp only [Bool.and_assoc]
def checkOK (t : Str) (lsn : Int) : Bool := match readC t with
  | none => false
  | some (l1, l2) => ((decide (l1.length ≤ 8) && okL 7 lsn l1 (-1)) && (decide (l2.length ≤ 10) && okL 60 lsn l2 0))
theorem isCheck_ok {t : Str} {lsn : Int} : isCheckF t lsn = checkOK t lsn := by
  have chkF_fail : ∀ {a b c d : Int} {r : Rd}, r.fail = true → (chkF a b c d r).1 = false := fun {a b c d r} h => by
    obtain ⟨s, f⟩ := r
    simp only at h; subst h
    unfold chkF
    simp only
    rw [chkL_fail (by rw [numF_fail]), Bool.not_true, Bool.and_false]
  have chkF_none : ∀ {a b c d : Int} {n : UInt8} {s : Str}, prs n.toNat s = none → (chkF a b c d ⟨n :: s, false⟩).1 = false := fun {a b c d n s} h => by
    unfold chkF
    simp only [numF_cons]
    have := @chkL_prs c d n.toNat s (decide ((n.toNat : Int) ≤ a)) (b - 1)
    rw [h] at this
    rw [this, Bool.not_true, Bool.and_false]
  have chkF_some : ∀ {a b c d : Int} {n : UInt8} {s s' : Str} {l : List Pr}, prs n.toNat s = some (l, s') → chkF a b c d ⟨n :: s, false⟩ = (decide ((l.length : Int) ≤ a) && okL c d l (b - 1), ⟨s', false⟩) := fun {a b c d n s s' l} h => by
    unfold chkF
    simp only [numF_cons]
    have := @chkL_prs c d n.toNat s (decide ((n.toNat : Int) ≤ a)) (b - 1)
    rw [h] at this
    rw [this.1, this.2]; simp
  have chkF_nil : ∀ {a b c d : Int}, (chkF a b c d ⟨[], false⟩).1 = false := fun {a b c d} => by
    unfold chkF
    simp only [numF_nil]
    rw [chkL_fail rfl, Bool.not_true, Bool.and_false]
  unfold isCheckF checkOK readC
  cases t with
  | nil => rw [chkF_nil, Bool.false_and, Bool.false_and]
  | cons n s =>
    simp only
    cases hp : prs n.toNat s with
    | none => rw [chkF_none hp, Bool.false_and, Bool.false_and]
    | some p =>
      obtain ⟨l1, s1⟩ := p
      rw [chkF_some hp]
      cases s1 with
      | nil => simp only; rw [chkF_nil, Bool.and_false, Bool.false_and]
      | cons m s2 =>
        simp only
        cases hq : prs m.toNat s2 with
        | none => rw [chkF_none hq, Bool.and_false, Bool.false_and]
        | some q =>
          obtain ⟨l2, s3⟩ := q
          rw [chkF_some hq]
          cases s3 with
          | nil =>
            simp only [doneF]
            rw [show decide ((l1.length : Int) ≤ 8) = decide (l1.length ≤ 8) from by congr 1; exact propext (by omega), show decide ((l2.length : Int) ≤ 10) = decide (l2.length ≤ 10) from by congr 1; exact propext (by omega)]
            simp
          | cons _ _ => simp [doneF]; intros; omega
/-! A record is right. -/
def recP (r : GLogRecord) : Prop := (1 ≤ r.Epoch ∧ r.Epoch ≤ 60 ∧ 1 ≤ r.Lsn ∧ r.Lsn ≤ 60) ∧
  ((r.Kind = 6 ∧ r.Tx = 0 ∧ r.Prev = 0 ∧ r.Next = 0 ∧ r.Page = 0 ∧ r.Slot = 0 ∧ r.Before = [] ∧ isCheckF r.After r.Lsn = true) ∨
   ((1 ≤ r.Kind ∧ r.Kind ≤ 5 ∧ 1 ≤ r.Tx ∧ r.Tx ≤ 60 ∧ 0 ≤ r.Prev ∧ r.Prev ≤ r.Lsn - 1 ∧ (r.Prev = 0 ↔ r.Kind = 1)) ∧
     ((r.Kind = 2 ∧ 0 ≤ r.Page ∧ r.Page ≤ 7 ∧ 0 ≤ r.Slot ∧ r.Slot ≤ 3 ∧ r.Before.length ≤ 30 ∧ r.After.length ≤ 30 ∧ r.Next = 0) ∨
      (r.Kind = 3 ∧ 0 ≤ r.Page ∧ r.Page ≤ 7 ∧ 0 ≤ r.Slot ∧ r.Slot ≤ 3 ∧ r.Before = [] ∧ r.After.length ≤ 30 ∧ 0 ≤ r.Next ∧ r.Next ≤ r.Lsn - 1) ∨
      (r.Kind ≠ 2 ∧ r.Kind ≠ 3 ∧ r.Next = 0 ∧ r.Page = 0 ∧ r.Slot = 0 ∧ r.Before = [] ∧ r.After = []))))
instance recP_dec (r : GLogRecord) : Decidable (recP r) := by unfold recP; infer_instance
def recOK (r : GLogRecord) : Bool := decide (recP r)
theorem recOK_t {r : GLogRecord} (h : recP r) : recOK r = true := by unfold recOK; exact decide_eq_true h
theorem recOK_f {r : GLogRecord} (h : ¬ recP r) : recOK r = false := by unfold recOK; exact decide_eq_false h
/- as the program asks -/
def rest6 (r : GLogRecord) : GLogRecord := ⟨0, 0, 0, 0, 0, r.Next, r.Page, r.Slot, r.Before, []⟩
def restO (r : GLogRecord) : GLogRecord := ⟨0, 0, 0, 0, 0, r.Next, r.Page, r.Slot, r.Before, r.After⟩
def rest2 (r : GLogRecord) : GLogRecord := ⟨0, 0, 0, 0, 0, r.Next, 0, 0, [], []⟩
def rest3 (r : GLogRecord) : GLogRecord := ⟨0, 0, 0, 0, 0, 0, 0, 0, r.Before, []⟩
def badU (r : GLogRecord) : Bool := ((!(inR r.Page 0 (8 - 1) && inR r.Slot 0 (4 - 1)) || decide ((30 : Int) < (r.Before.length : Int))) || decide ((30 : Int) < (r.After.length : Int))) || (decide (r.Kind = 3) && !inR r.Next 0 (r.Lsn - 1))
noncomputable def tailR (r x : GLogRecord) : Bool := (((inR r.Kind 1 5 && eqb x .zero) && inR r.Tx 1 60) && inR r.Prev 0 (r.Lsn - 1)) && (bif false then decide (r.Prev = 0) != decide (r.Kind = 1) else decide (r.Prev = 0) == decide (r.Kind = 1))
noncomputable def val6 (r : GLogRecord) : Bool := ((decide (r.Tx = 0) && decide (r.Prev = 0)) && eqb (rest6 r) .zero) && isCheckF r.After r.Lsn
theorem zero_iff {x : GLogRecord} : eqb x .zero = true ↔ x = .zero := eqb_iff
theorem tailR_iff {r x : GLogRecord} : tailR r x = true ↔ (1 ≤ r.Kind ∧ r.Kind ≤ 5) ∧ x = .zero ∧ (1 ≤ r.Tx ∧ r.Tx ≤ 60) ∧ (0 ≤ r.Prev ∧ r.Prev ≤ r.Lsn - 1) ∧ (r.Prev = 0 ↔ r.Kind = 1) := by
  unfold tailR
  rw [Bool.and_eq_true, Bool.and_eq_true, Bool.and_eq_true, Bool.and_eq_true, inR_iff, inR_iff, inR_iff, zero_iff, cond_false, beq_iff_eq, decide_eq_decide]
  constructor
  · rintro ⟨⟨⟨⟨a, b⟩, c⟩, d⟩, e⟩; exact ⟨a, b, c, d, e⟩
  · rintro ⟨a, b, c, d, e⟩; exact ⟨⟨⟨⟨a, b⟩, c⟩, d⟩, e⟩
theorem badU_no {r : GLogRecord} : badU r = false ↔ (0 ≤ r.Page ∧ r.Page ≤ 7) ∧ (0 ≤ r.Slot ∧ r.Slot ≤ 3) ∧ r.Before.length ≤ 30 ∧ r.After.length ≤ 30 ∧ (r.Kind = 3 → 0 ≤ r.Next ∧ r.Next ≤ r.Lsn - 1) := by
  unfold badU
  rw [Bool.or_eq_false_iff, Bool.or_eq_false_iff, Bool.or_eq_false_iff, Bool.not_eq_false', Bool.and_eq_true, inR_iff, inR_iff, decide_eq_false_iff_not, decide_eq_false_iff_not, Bool.and_eq_false_iff, decide_eq_false_iff_not, Bool.not_eq_false', inR_iff]
  constructor
  · rintro ⟨⟨⟨⟨a, b⟩, c⟩, d⟩, e⟩
    exact ⟨by omega, by omega, by omega, by omega, fun h => e.elim (fun q => absurd h q) id⟩
  · rintro ⟨a, b, c, d, e⟩
    refine ⟨⟨⟨⟨by omega, by omega⟩, by omega⟩, by omega⟩, ?_⟩
    by_cases h : r.Kind = 3
    · exact .inr (e h)
    · exact .inl h
theorem hd_in {r : GLogRecord} (h : ¬ (1 ≤ r.Epoch ∧ r.Epoch ≤ 60) ∨ ¬ (1 ≤ r.Lsn ∧ r.Lsn ≤ 60)) : recOK r = false := recOK_f (fun q => by have := q.1; omega)
theorem rec_bool {r : GLogRecord} {b : Bool} (h : b = true ↔ recP r) : b = recOK r := by
  cases b with
  | true => exact (recOK_t (h.1 rfl)).symm
  | false => exact (recOK_f (fun q => by have := h.2 q; cases this)).symm
theorem recI_6 {r : GLogRecord} (h : (1 ≤ r.Epoch ∧ r.Epoch ≤ 60) ∧ (1 ≤ r.Lsn ∧ r.Lsn ≤ 60)) (hk : r.Kind = 6) : val6 r = recOK r := rec_bool (by
  unfold val6 recP
  rw [Bool.and_eq_true, Bool.and_eq_true, Bool.and_eq_true, decide_eq_true_eq, decide_eq_true_eq, zero_iff, GLogRecord.eq_iff]
  simp only [rest6, GLogRecord.zero, true_and, and_true]
  constructor
  · rintro ⟨⟨⟨a, b⟩, c, d, e, f⟩, g⟩
    exact ⟨by omega, .inl ⟨hk, a, b, c, d, e, f, g⟩⟩
  · rintro ⟨_, h1 | ⟨h1, _⟩⟩
    · exact ⟨⟨⟨h1.2.1, h1.2.2.1⟩, h1.2.2.2.1, h1.2.2.2.2.1, h1.2.2.2.2.2.1, h1.2.2.2.2.2.2.1⟩, h1.2.2.2.2.2.2.2⟩
    · omega)
theorem recI_bad {r : GLogRecord} (hk : r.Kind = 2 ∨ r.Kind = 3) (hb : badU r = true) : recOK r = false := recOK_f (fun q => by
  have hn : ¬ badU r = false := by rw [hb]; simp
  rw [badU_no] at hn
  apply hn
  rcases q.2 with h1 | ⟨h1, h2 | h2 | h2⟩
  · omega
  · exact ⟨by omega, by omega, by omega, by omega, fun h => by omega⟩
  · exact ⟨by omega, by omega, by rw [h2.2.2.2.2.2.1]; simp, by omega, fun h => by omega⟩
  · omega)
theorem recI_2 {r : GLogRecord} (h : (1 ≤ r.Epoch ∧ r.Epoch ≤ 60) ∧ (1 ≤ r.Lsn ∧ r.Lsn ≤ 60)) (hk : r.Kind = 2) (hb : badU r = false) : tailR r (rest2 r) = recOK r := rec_bool (by
  rw [badU_no] at hb
  rw [tailR_iff]; unfold recP
  rw [GLogRecord.eq_iff]
  simp only [rest2, GLogRecord.zero, true_and, and_true]
  constructor
  · rintro ⟨a, b, c, d, e⟩
    exact ⟨by omega, .inr ⟨⟨by omega, by omega, by omega, by omega, by omega, by omega, e⟩, .inl ⟨hk, by omega, by omega, by omega, by omega, by omega, by omega, b⟩⟩⟩
  · rintro ⟨_, h1 | ⟨h1, h2 | h2 | h2⟩⟩
    · omega
    · exact ⟨by omega, h2.2.2.2.2.2.2.2, by omega, by omega, h1.2.2.2.2.2.2⟩
    · omega
    · omega)
theorem recI_3 {r : GLogRecord} (h : (1 ≤ r.Epoch ∧ r.Epoch ≤ 60) ∧ (1 ≤ r.Lsn ∧ r.Lsn ≤ 60)) (hk : r.Kind = 3) (hb : badU r = false) : tailR r (rest3 r) = recOK r := rec_bool (by
  rw [badU_no] at hb
  rw [tailR_iff]; unfold recP
  rw [GLogRecord.eq_iff]
  simp only [rest3, GLogRecord.zero, true_and, and_true]
  have hn := hb.2.2.2.2 hk
  constructor
  · rintro ⟨a, b, c, d, e⟩
    exact ⟨by omega, .inr ⟨⟨by omega, by omega, by omega, by omega, by omega, by omega, e⟩, .inr (.inl ⟨hk, by omega, by omega, by omega, by omega, b, by omega, by omega, by omega⟩)⟩⟩
  · rintro ⟨_, h1 | ⟨h1, h2 | h2 | h2⟩⟩
    · omega
    · omega
    · exact ⟨by omega, h2.2.2.2.2.2.1, by omega, by omega, h1.2.2.2.2.2.2⟩
    · omega)
theorem recI_o {r : GLogRecord} (h : (1 ≤ r.Epoch ∧ r.Epoch ≤ 60) ∧ (1 ≤ r.Lsn ∧ r.Lsn ≤ 60)) (h6 : ¬ r.Kind = 6) (h2 : ¬ r.Kind = 2) (h3 : ¬ r.Kind = 3) : tailR r (restO r) = recOK r := rec_bool (by
  rw [tailR_iff]; unfold recP
  rw [GLogRecord.eq_iff]
  simp only [restO, GLogRecord.zero, true_and]
  constructor
  · rintro ⟨a, ⟨b1, b2, b3, b4, b5⟩, c, d, e⟩
    exact ⟨by omega, .inr ⟨⟨by omega, by omega, by omega, by omega, by omega, by omega, e⟩, .inr (.inr ⟨h2, h3, b1, b2, b3, b4, b5⟩)⟩⟩
  · rintro ⟨_, q | ⟨h1, q | q | q⟩⟩
    · omega
    · omega
    · omega
    · exact ⟨by omega, ⟨q.2.2.1, q.2.2.2.1, q.2.2.2.2.1, q.2.2.2.2.2.1, q.2.2.2.2.2.2⟩, by omega, by omega, h1.2.2.2.2.2.2⟩)
/- as the reference asks -/
def badS0 (r : GLogRecord) : Bool := (((((((!inR r.Epoch 1 60 || !inR r.Lsn 1 60) || !inR r.Kind 1 6) || !inR r.Prev 0 (r.Lsn - 1)) || !inR r.Next 0 (r.Lsn - 1)) || !inR r.Page 0 7) || !inR r.Slot 0 3) || decide ((30 : Int) < (r.Before.length : Int)))
def valS6 (r : GLogRecord) : Bool := ((((((decide (r.Tx = 0) && decide (r.Prev = 0)) && decide (r.Next = 0)) && decide (r.Page = 0)) && decide (r.Slot = 0)) && decide (r.Before = [])) && checkOK r.After r.Lsn)
def badS2 (r : GLogRecord) : Bool := !inR r.Tx 1 60 || decide ((30 : Int) < (r.After.length : Int))
def badS3 (r : GLogRecord) : Bool := ((!(decide (r.Kind = 2) || decide (r.Kind = 3)) && (((!decide (r.Page = 0) || !decide (r.Slot = 0)) || !decide (r.Before = [])) || !decide (r.After = []))) || (!decide (r.Kind = 3) && !decide (r.Next = 0))) || (decide (r.Kind = 3) && !decide (r.Before = []))
def valS4 (r : GLogRecord) : Bool := bif false then decide (r.Kind = 1) != decide (r.Prev = 0) else decide (r.Kind = 1) == decide (r.Prev = 0)
structure InS (r : GLogRecord) : Prop where
  e : 1 ≤ r.Epoch ∧ r.Epoch ≤ 60
  l : 1 ≤ r.Lsn ∧ r.Lsn ≤ 60
  k : 1 ≤ r.Kind ∧ r.Kind ≤ 6
  p : 0 ≤ r.Prev ∧ r.Prev ≤ r.Lsn - 1
  n : 0 ≤ r.Next ∧ r.Next ≤ r.Lsn - 1
  g : 0 ≤ r.Page ∧ r.Page ≤ 7
  s : 0 ≤ r.Slot ∧ r.Slot ≤ 3
  b : r.Before.length ≤ 30
theorem badS0_no {r : GLogRecord} : badS0 r = false ↔ InS r := by
  unfold badS0
  simp only [Bool.or_eq_false_iff, Bool.not_eq_false', inR_iff, decide_eq_false_iff_not]
  constructor
  · rintro ⟨⟨⟨⟨⟨⟨⟨a, b⟩, c⟩, d⟩, e⟩, f⟩, g⟩, h⟩; exact ⟨a, b, c, d, e, f, g, by omega⟩
  · rintro ⟨a, b, c, d, e, f, g, h⟩; exact ⟨⟨⟨⟨⟨⟨⟨a, b⟩, c⟩, d⟩, e⟩, f⟩, g⟩, by omega⟩
theorem recP_in {r : GLogRecord} (h : recP r) : InS r := by
  obtain ⟨h0, h1 | ⟨h1, h2 | h2 | h2⟩⟩ := h
  · exact ⟨by omega, by omega, by omega, by omega, by omega, by omega, by omega, by rw [h1.2.2.2.2.2.2.1]; simp⟩
  · exact ⟨by omega, by omega, by omega, by omega, by omega, by omega, by omega, by omega⟩
  · exact ⟨by omega, by omega, by omega, by omega, by omega, by omega, by omega, by rw [h2.2.2.2.2.2.1]; simp⟩
  · exact ⟨by omega, by omega, by omega, by omega, by omega, by omega, by omega, by rw [h2.2.2.2.2.2.1]; simp⟩
theorem recS_0 {r : GLogRecord} (h : badS0 r = true) : recOK r = false := recOK_f (fun q => by have := badS0_no.2 (recP_in q); rw [h] at this; cases this)
theorem recS_6 {r : GLogRecord} (h : InS r) (hk : r.Kind = 6) : valS6 r = recOK r := rec_bool (by
  unfold valS6 recP
  simp only [Bool.and_eq_true, decide_eq_true_eq]
  have h1 := h.e; have h2 := h.l
  rw [← isCheck_ok]
  constructor
  · rintro ⟨⟨⟨⟨⟨⟨a, b⟩, c⟩, d⟩, e⟩, f⟩, g⟩
    exact ⟨by omega, .inl ⟨hk, a, b, c, d, e, f, g⟩⟩
  · rintro ⟨_, q | ⟨q, _⟩⟩
    · exact ⟨⟨⟨⟨⟨⟨q.2.1, q.2.2.1⟩, q.2.2.2.1⟩, q.2.2.2.2.1⟩, q.2.2.2.2.2.1⟩, q.2.2.2.2.2.2.1⟩, q.2.2.2.2.2.2.2⟩
    · omega)
theorem recS_2 {r : GLogRecord} (h6 : ¬ r.Kind = 6) (h : badS2 r = true) : recOK r = false := recOK_f (fun q => by
  have hn : ¬ badS2 r = false := by rw [h]; simp
  apply hn
  unfold badS2
  simp only [Bool.or_eq_false_iff, Bool.not_eq_false', inR_iff, decide_eq_false_iff_not]
  obtain ⟨h0, h1 | ⟨h1, h2 | h2 | h2⟩⟩ := q
  · omega
  · exact ⟨by omega, by omega⟩
  · exact ⟨by omega, by omega⟩
  · exact ⟨by omega, by rw [h2.2.2.2.2.2.2]; simp⟩)
theorem badS3_no {r : GLogRecord} : badS3 r = false ↔ (¬ r.Kind = 2 → ¬ r.Kind = 3 → r.Page = 0 ∧ r.Slot = 0 ∧ r.Before = [] ∧ r.After = []) ∧ (¬ r.Kind = 3 → r.Next = 0) ∧ (r.Kind = 3 → r.Before = []) := by
  unfold badS3
  simp only [Bool.or_eq_false_iff, Bool.and_eq_false_iff, Bool.not_eq_false', Bool.or_eq_true, decide_eq_true_eq, decide_eq_false_iff_not]
  constructor
  · rintro ⟨⟨a, b⟩, c⟩
    refine ⟨fun h2 h3 => ?_, fun h3 => ?_, fun h3 => ?_⟩
    · rcases a with (a | a) | ⟨⟨⟨a1, a2⟩, a3⟩, a4⟩
      · exact absurd a h2
      · exact absurd a h3
      · exact ⟨a1, a2, a3, a4⟩
    · exact b.resolve_left h3
    · exact c.resolve_left (fun q => q h3)
  · rintro ⟨a, b, c⟩
    refine ⟨⟨?_, ?_⟩, ?_⟩
    · by_cases h2 : r.Kind = 2
      · exact .inl (.inl h2)
      · by_cases h3 : r.Kind = 3
        · exact .inl (.inr h3)
        · obtain ⟨a1, a2, a3, a4⟩ := a h2 h3
          exact .inr ⟨⟨⟨a1, a2⟩, a3⟩, a4⟩
    · by_cases h3 : r.Kind = 3
      · exact .inl h3
      · exact .inr (b h3)
    · by_cases h3 : r.Kind = 3
      · exact .inr (c h3)
      · exact .inl h3
theorem recS_3 {r : GLogRecord} (h6 : ¬ r.Kind = 6) (h : badS3 r = true) : recOK r = false := recOK_f (fun q => by
  have hn : ¬ badS3 r = false := by rw [h]; simp
  apply hn
  rw [badS3_no]
  obtain ⟨h0, h1 | ⟨h1, h2 | h2 | h2⟩⟩ := q
  · omega
  · exact ⟨fun a b => by omega, fun _ => by omega, fun _ => by omega⟩
  · exact ⟨fun a b => by omega, fun _ => by omega, fun _ => h2.2.2.2.2.2.1⟩
  · exact ⟨fun _ _ => ⟨h2.2.2.2.1, h2.2.2.2.2.1, h2.2.2.2.2.2.1, h2.2.2.2.2.2.2⟩, fun _ => h2.2.2.1, fun _ => h2.2.2.2.2.2.1⟩)
theorem recS_4 {r : GLogRecord} (h : InS r) (h6 : ¬ r.Kind = 6) (hb2 : badS2 r = false) (hb3 : badS3 r = false) : valS4 r = recOK r := rec_bool (by
  unfold badS2 at hb2
  simp only [Bool.or_eq_false_iff, Bool.not_eq_false', inR_iff, decide_eq_false_iff_not] at hb2
  rw [badS3_no] at hb3
  obtain ⟨h1, h2, h3, h4, h5, h7, h8, h9⟩ := h
  obtain ⟨a, b, c⟩ := hb3
  unfold valS4 recP
  rw [cond_false, beq_iff_eq, decide_eq_decide]
  constructor
  · intro e
    refine ⟨by omega, .inr ⟨⟨by omega, by omega, by omega, by omega, by omega, by omega, e.symm⟩, ?_⟩⟩
    by_cases k2 : r.Kind = 2
    · exact .inl ⟨k2, by omega, by omega, by omega, by omega, by omega, by omega, b (by omega)⟩
    · by_cases k3 : r.Kind = 3
      · exact .inr (.inl ⟨k3, by omega, by omega, by omega, by omega, c k3, by omega, by omega, by omega⟩)
      · obtain ⟨a1, a2, a3, a4⟩ := a k2 k3
        exact .inr (.inr ⟨k2, k3, b k3, a1, a2, a3, a4⟩)
  · rintro ⟨_, q | ⟨q, _⟩⟩
    · omega
    · exact q.2.2.2.2.2.2.symm)
end Go.AM

/- Plain laws: the lists of a check, as the reference reads them. -/
namespace Go.AM
def prRow (p : Pr) : List D := [.int .i64 (p.1 : Int), .int .i64 (p.2 : Int)]
theorem prs_some : ∀ {n : Nat} {s : Str}, 2 * n ≤ s.length → ∃ l, prs n s = some (l, s.drop (2 * n)) ∧ l.length = n ∧ ∀ i (hi : 2 * i + 1 < s.length), i < n → l[i]? = some (s[2 * i].toNat, s[2 * i + 1].toNat)
  | 0, s, _ => ⟨[], by simp [prs], rfl, fun i _ h => by omega⟩
  | n + 1, a :: b :: s, h => by
    obtain ⟨l, h1, h2, h3⟩ := @prs_some n s (by simp only [List.length_cons] at h; omega)
    refine ⟨(a.toNat, b.toNat) :: l, ?_, by rw [List.length_cons, h2], ?_⟩
    · rw [prs, h1, show 2 * (n + 1) = 2 * n + 1 + 1 from by omega]; rfl
    · intro i hi hin
      cases i with
      | zero => rfl
      | succ i =>
        have hi' : 2 * i + 1 < s.length := by simp only [List.length_cons] at hi; omega
        have e1 : (a :: b :: s)[2 * (i + 1)] = s[2 * i] := by simp only [show 2 * (i + 1) = 2 * i + 1 + 1 from by omega]; rfl
        have e2 : (a :: b :: s)[2 * (i + 1) + 1] = s[2 * i + 1] := by simp only [show 2 * (i + 1) + 1 = 2 * i + 1 + 1 + 1 from by omega]; rfl
        rw [List.getElem?_cons_succ, h3 i hi' (by omega), e1, e2]
  | n + 1, [], h => by simp only [List.length_nil] at h; omega
  | n + 1, [_], h => by simp only [List.length_cons, List.length_nil] at h; omega
theorem prs_none : ∀ {n : Nat} {s : Str}, s.length < 2 * n → prs n s = none
  | 0, s, h => by omega
  | n + 1, a :: b :: s, h => by
    rw [prs, prs_none (by simp only [List.length_cons] at h; omega)]; rfl
  | n + 1, [], _ => rfl
  | n + 1, [_], _ => rfl
def stage2 (l1 : List Pr) (u : Str) : List Pr × List Pr × Bool := match u with
  | [] => (l1, [], false)
  | m :: s => match prs m.toNat s with
    | none => (l1, [], false)
    | some (l2, s3) => (l1, l2, decide (s3 = []))
def readX (t : Str) : List Pr × List Pr × Bool := match t with
  | [] => ([], [], false)
  | n :: s => match prs n.toNat s with
    | none => ([], [], false)
    | some (l1, u) => stage2 l1 u
theorem readX_C {t : Str} : readC t = if (readX t).2.2 = true then some ((readX t).1, (readX t).2.1) else none := by
  unfold readC readX
  cases t with
  | nil => rfl
  | cons n s =>
    simp only
    cases prs n.toNat s with
    | none => rfl
    | some p =>
      obtain ⟨l1, u⟩ := p
      simp only
      unfold stage2
      cases u with
      | nil => rfl
      | cons m s2 =>
        simp only
        cases prs m.toNat s2 with
        | none => rfl
        | some q =>
          obtain ⟨l2, s3⟩ := q
          cases s3 with
          | nil => simp
          | cons _ _ => simp
/-- Two lists are read one behind the other: the state ahead of the one of number k. -/
def CkInv (t : Str) (k : Nat) (l1 l2 : List Pr) (p : Nat) : Prop := p ≤ t.length ∧ l1.length ≤ 255 ∧ l2.length ≤ 255 ∧
  ((k = 0 ∧ l1 = [] ∧ l2 = [] ∧ p = 0) ∨ (k = 1 ∧ l2 = [] ∧ readX t = stage2 l1 (t.drop p)) ∨ (k = 2 ∧ readX t = (l1, l2, decide (p = t.length))))
theorem ck0 {t : Str} : CkInv t 0 [] [] 0 := ⟨Nat.zero_le _, Nat.zero_le _, Nat.zero_le _, .inl ⟨rfl, rfl, rfl, rfl⟩⟩
theorem drop_some {t : Str} {p : Nat} (h : p < t.length) : t.drop p = t[p] :: t.drop (p + 1) := List.drop_eq_getElem_cons h
/- the first list -/
theorem ck_a0 {t : Str} (h : t.length ≤ 0) : readX t = ([], [], false) := by
  obtain rfl : t = [] := List.eq_nil_of_length_eq_zero (by omega)
  rfl
theorem ck_a1 {t : Str} {h : 0 < t.length} (h2 : t.length < 0 + 1 + 2 * t[0].toNat) : readX t = ([], [], false) := by
  cases t with
  | nil => cases h
  | cons n s =>
    simp only [List.length_cons, List.getElem_cons_zero] at h2
    unfold readX
    simp only
    rw [prs_none (by omega)]
theorem ck_a2 {t : Str} {l : List Pr} {h : 0 < t.length} (hl : prs t[0].toNat (t.drop 1) = some (l, (t.drop 1).drop (2 * t[0].toNat))) (hn : l.length = t[0].toNat) (h2 : 1 + 2 * t[0].toNat ≤ t.length) : CkInv t 1 l [] (1 + 2 * t[0].toNat) := by
  have hb := t[0].toNat_lt
  refine ⟨h2, by omega, Nat.zero_le _, .inr (.inl ⟨rfl, rfl, ?_⟩)⟩
  cases t with
  | nil => cases h
  | cons n s =>
    simp only [List.getElem_cons_zero, List.drop_succ_cons, List.drop_zero] at hl ⊢
    unfold readX
    simp only
    rw [hl]
    simp only
    rw [show 1 + 2 * n.toNat = 2 * n.toNat + 1 from by omega, List.drop_succ_cons]
/- the second -/
theorem ck_b0 {t : Str} {l : List Pr} {p : Nat} (e : readX t = stage2 l (t.drop p)) (h : t.length ≤ p) : readX t = (l, [], false) := by
  rw [e, List.drop_eq_nil_of_le h]; rfl
theorem ck_b1 {t : Str} {l : List Pr} {p : Nat} (e : readX t = stage2 l (t.drop p)) {h : p < t.length} (h2 : t.length < p + 1 + 2 * t[p].toNat) : readX t = (l, [], false) := by
  rw [e, drop_some h]
  unfold stage2
  simp only
  rw [prs_none (by rw [List.length_drop]; omega)]
theorem ck_b2 {t : Str} {l l2 : List Pr} {p : Nat} (e : readX t = stage2 l (t.drop p)) (hll : l.length ≤ 255) {h : p < t.length} (hl : prs t[p].toNat (t.drop (p + 1)) = some (l2, (t.drop (p + 1)).drop (2 * t[p].toNat))) (hn : l2.length = t[p].toNat) (h2 : p + 1 + 2 * t[p].toNat ≤ t.length) :
    CkInv t 2 l l2 (p + 1 + 2 * t[p].toNat) := by
  have hb := t[p].toNat_lt
  refine ⟨h2, hll, by omega, .inr (.inr ⟨rfl, ?_⟩)⟩
  rw [e, drop_some h]
  unfold stage2
  simp only
  rw [hl]
  simp only [List.drop_drop]
  rw [show decide (t.drop (p + 1 + 2 * t[p].toNat) = []) = decide (p + 1 + 2 * t[p].toNat = t.length) from by
    congr 1; rw [List.drop_eq_nil_iff]; exact propext (by omega)]
/-- What the list of number k is, all at once. -/
theorem ck_list {t : Str} {p n : Nat} (h2 : p + 2 * n ≤ t.length) : ∃ l, prs n (t.drop p) = some (l, (t.drop p).drop (2 * n)) ∧ l.length = n ∧ ∀ i (hi : p + 2 * i + 1 < t.length), i < n → l[i]? = some (t[p + 2 * i].toNat, t[p + 2 * i + 1].toNat) := by
  obtain ⟨l, a, b, c⟩ := @prs_some n (t.drop p) (by rw [List.length_drop]; omega)
  refine ⟨l, a, b, fun i hi hin => ?_⟩
  rw [c i (by rw [List.length_drop]; omega) hin]
  simp only [List.getElem_drop]
  rfl
theorem take_pr {l : List Pr} {i : Nat} {a b : Nat} (h : l[i]? = some (a, b)) : (l.take i).map prRow ++ [[D.int .i64 (a : Int), D.int .i64 (b : Int)]] = (l.take (i + 1)).map prRow := by
  rw [List.take_add_one, h]; simp [prRow]
/-! A check is right. -/
def prevP (l : List Pr) (b : Int) (i : Nat) : Int := if i = 0 then b else ((l[i - 1]?.map (·.1)).getD 0 : Nat)
def badPr (lo high lsn : Int) (l : List Pr) (i : Nat) (hi : i < l.length) : Bool :=
  (!inR (l[i].1 : Int) lo high || !inR (l[i].2 : Int) 1 (lsn - 1)) || (decide ((0 : Int) < (i : Int)) && decide ((l[i].1 : Int) ≤ ((l[i - 1]'(by omega)).1 : Int)))
theorem okL_step {high lsn b : Int} {l : List Pr} {i : Nat} (hi : i < l.length) (hb : b + 1 ≤ 1) : okL high lsn (l.drop i) (prevP l b i) = (!badPr (b + 1) high lsn l i hi && okL high lsn (l.drop (i + 1)) (prevP l b (i + 1))) := by
  rw [List.drop_eq_getElem_cons hi, okL]
  have e : prevP l b (i + 1) = (l[i].1 : Int) := by unfold prevP; rw [if_neg (by omega), Nat.add_sub_cancel, List.getElem?_eq_getElem hi]; rfl
  rw [e]
  congr 1
  unfold badPr
  rw [Bool.not_or, Bool.not_or, Bool.not_not, Bool.not_not]
  have key : inR (l[i].1 : Int) (prevP l b i + 1) high = (inR (l[i].1 : Int) (b + 1) high && !(decide ((0 : Int) < (i : Int)) && decide ((l[i].1 : Int) ≤ ((l[i - 1]'(by omega)).1 : Int)))) := by
    rw [Bool.eq_iff_iff, Bool.and_eq_true, inR_iff, inR_iff, Bool.not_eq_true', Bool.and_eq_false_iff, decide_eq_false_iff_not, decide_eq_false_iff_not]
    unfold prevP
    by_cases h0 : i = 0
    · rw [if_pos h0]
      constructor
      · rintro h; exact ⟨h, .inl (by omega)⟩
      · rintro ⟨h, _⟩; exact h
    · rw [if_neg h0, List.getElem?_eq_getElem (by omega)]
      simp only [Option.map_some, Option.getD_some]
      constructor
      · rintro ⟨h, h'⟩; exact ⟨⟨by omega, h'⟩, .inr (by omega)⟩
      · rintro ⟨⟨h, h'⟩, q | q⟩
        · omega
        · exact ⟨by omega, h'⟩
  rw [key]
  cases inR (l[i].1 : Int) (b + 1) high <;> cases inR (l[i].2 : Int) 1 (lsn - 1) <;> cases (decide ((0 : Int) < (i : Int)) && decide ((l[i].1 : Int) ≤ ((l[i - 1]'(by omega)).1 : Int))) <;> rfl
theorem okL_end {high lsn b : Int} {l : List Pr} : okL high lsn (l.drop l.length) b = true := by rw [List.drop_length]; rfl
def badX (p : List Pr × List Pr × Bool) : Bool := (!p.2.2 || decide ((8 : Int) < (p.1.length : Int))) || decide ((10 : Int) < (p.2.1.length : Int))
theorem checkX {t : Str} {lsn : Int} : checkOK t lsn = (!badX (readX t) && (okL 7 lsn (readX t).1 (-1) && okL 60 lsn (readX t).2.1 0)) := by
  unfold checkOK badX
  rw [readX_C]
  split
  · rename_i h
    split at h
    · cases h
    · rename_i h'
      rw [Bool.not_eq_true] at h'
      rw [h']; rfl
  · rename_i l1 l2 h
    split at h
    · rename_i h'
      simp only [Option.some.injEq, Prod.mk.injEq] at h
      rw [h', h.1, h.2]
      simp only [Bool.not_true, Bool.false_or, Bool.not_or]
      rw [show (!decide ((8 : Int) < (l1.length : Int))) = decide (l1.length ≤ 8) from by rw [← decide_not]; congr 1; exact propext (by omega), show (!decide ((10 : Int) < (l2.length : Int))) = decide (l2.length ≤ 10) from by rw [← decide_not]; congr 1; exact propext (by omega)]
      cases decide (l1.length ≤ 8) <;> cases decide (l2.length ≤ 10) <;> cases okL 7 lsn l1 (-1) <;> cases okL 60 lsn l2 0 <;> rfl
    · cases h
theorem readX_len {t : Str} : (readX t).1.length ≤ 255 ∧ (readX t).2.1.length ≤ 255 := by
  have h : ∀ {n : UInt8} {s u : Str} {l : List Pr}, prs n.toNat s = some (l, u) → l.length ≤ 255 := fun {n s u l} h => by
    have hb := n.toNat_lt
    rcases Nat.lt_or_ge s.length (2 * n.toNat) with q | q
    · rw [prs_none q] at h; cases h
    · obtain ⟨l', a, b, _⟩ := prs_some q
      rw [a] at h; cases h; omega
  unfold readX
  cases t with
  | nil => simp
  | cons n s =>
    simp only
    cases hp : prs n.toNat s with
    | none => simp
    | some p =>
      obtain ⟨l1, u⟩ := p
      simp only
      unfold stage2
      cases u with
      | nil => simp [h hp]
      | cons m s2 =>
        simp only
        cases hq : prs m.toNat s2 with
        | none => simp [h hp]
        | some q =>
          obtain ⟨l2, s3⟩ := q
          simp [h hp, h hq]
end Go.AM

