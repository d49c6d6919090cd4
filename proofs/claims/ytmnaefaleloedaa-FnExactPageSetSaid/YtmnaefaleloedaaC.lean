/- Plain laws about strings, marks and pages; readings of arguments. -/
import Derived.Test.YtmnaefaleloedaaB
/- Plain data of the program, as Lean sees it: strings, rows of strings, marks. -/
namespace Go.AM

abbrev Str := List UInt8
def strRow (s : Str) : List D := [.str s]
def strs (xs : List Str) : D := .sl 1 (xs.map strRow)

/-- What 'sz..' counts. -/
def szF (left : Int) (n : Nat) : Int := if (n : Int) ≤ left then left - n else -1
def sumL : List Str → Nat
  | [] => 0
  | s :: r => s.length + sumL r
def szStrs (xs : List Str) : Nat := xs.length + sumL xs
theorem sumL_append : ∀ (a b : List Str), sumL (a ++ b) = sumL a + sumL b
  | [], b => by simp [sumL]
  | x :: a, b => by rw [List.cons_append, sumL, sumL, sumL_append a b]; omega
theorem take_succ {α : Type} {xs : List α} {k : Nat} (h : k < xs.length) : xs.take (k + 1) = xs.take k ++ [xs[k]] := by
  rw [List.take_add_one, List.getElem?_eq_getElem h]; rfl
theorem sumL_take {xs : List Str} {k : Nat} (h : k < xs.length) : sumL (xs.take (k + 1)) = sumL (xs.take k) + xs[k].length := by
  rw [take_succ h, sumL_append]; simp [sumL]
theorem sumL_le (xs : List Str) (k : Nat) : sumL (xs.take k) ≤ sumL xs := by
  conv => rhs; rw [← List.take_append_drop k xs]
  rw [sumL_append]; omega
theorem sumL_mem {xs : List Str} {s : Str} (h : s ∈ xs) : s.length ≤ sumL xs := by
  induction xs with
  | nil => cases h
  | cons x r ih =>
    rw [sumL]
    rcases List.mem_cons.1 h with rfl | h
    · omega
    · have := ih h; omega

/-- Lengths that Go has. -/
def wfStrs (xs : List Str) : Prop := xs.length ≤ 9223372036854775807 ∧ ∀ s ∈ xs, s.length ≤ 9223372036854775807

/-! Marks. -/
def digs : Nat → Nat → Str → Str
  | 0, _, out => out
  | f + 1, n, out => if n = 0 then out else digs f (n / 10) (UInt8.ofNat (48 + n % 10) :: out)
def mkT (k : Nat) : Str := if k = 0 then [109, 48] else 109 :: digs 20 k []
def marks (k n : Nat) : List Str := (List.range n).map fun i => mkT (k + i)
theorem marks_length (k n : Nat) : (marks k n).length = n := by simp [marks]
theorem marks_get {k n i : Nat} (h : i < n) : (marks k n)[i]? = some (mkT (k + i)) := by simp [marks, h]

theorem decide_iff {p q : Prop} [Decidable p] [Decidable q] (h : p ↔ q) : decide p = decide q := by
  by_cases hp : p
  · rw [decide_eq_true hp, decide_eq_true (h.1 hp)]
  · rw [decide_eq_false hp, decide_eq_false (fun hq => hp (h.2 hq))]
theorem eq_of_take {α : Type} {xs ys : List α} (hl : xs.length = ys.length) (h : xs.take xs.length = ys.take xs.length) : xs = ys := by
  rw [List.take_length] at h
  rw [h, hl, List.take_length]
theorem take_step {α : Type} {xs ys : List α} {k : Nat} (hx : k < xs.length) (hy : k < ys.length) (h : xs.take k = ys.take k) (he : xs[k] = ys[k]) : xs.take (k + 1) = ys.take (k + 1) := by
  rw [take_succ hx, take_succ hy, h, he]

structure Page where
  lsn : Int
  slots : List Str
def Page.av (p : Page) : AV := .agg [int p.lsn, .d (strs p.slots)]

theorem lend_whole {own : List (Nat × OB)} {e sz len : Nat} {rs : List (List D)} (h : get own e = some (.rows sz rs)) (hl : len = rs.length) : Lend own (.osl e sz 0 len) (.sl sz rs) :=
  .osl h (by omega) (by rw [List.drop_zero, hl, List.take_length])
end Go.AM

/- Plain laws: pages. -/
namespace Go.AM

def inR (n lo hi : Int) : Bool := decide (lo ≤ n) && decide (n ≤ hi)
def Page.zero : Page := ⟨0, []⟩
/-- A page whose slots are own. -/
abbrev pageO (e : Nat) (p : Page) : AV := .agg [int p.lsn, .osl e 1 0 p.slots.length]
abbrev pageH (e : Nat) (p : Page) : List (Nat × OB) := [(e, .rows 1 (p.slots.map strRow))]

def pageOK (p : Page) : Bool := inR p.lsn 0 1000 && decide (p.slots.length = 4) && !p.slots.any (fun s => decide (30 < s.length))
def pageSet (p : Page) (slot : Int) (data : Str) (lsn : Int) : Page × Int :=
  if (65536 : Int) < (data.length : Int) then (.zero, 2) else
  if pageOK p = false then (.zero, 1) else
  if (!inR slot 0 3 || decide ((30 : Int) < (data.length : Int)) || !inR lsn 0 1000) = true then (.zero, 4) else
  (⟨lsn, p.slots.set slot.toNat data⟩, 0)
def idxOf {α : Type} (p : α → Bool) : List α → Nat → Int
  | [], _ => -1
  | x :: xs, k => if p x then k else idxOf p xs (k + 1)
def pageInsert (p : Page) (data : Str) : Page × Int × Int :=
  if (65536 : Int) < (data.length : Int) then (.zero, 0, 2) else
  if pageOK p = false then (.zero, 0, 1) else
  if inR data.length 1 30 = false then (.zero, 0, 4) else
  let k := idxOf (fun s => decide (s = [])) p.slots 0
  if k < 0 then (p, 0, 7) else (⟨p.lsn, p.slots.set k.toNat data⟩, k, 0)

/-- Not found so far. -/
theorem idxOf_step {α : Type} {p : α → Bool} : ∀ {xs : List α} {k j : Nat}, (∀ i, i < k → ∀ x, xs[i]? = some x → p x = false) → idxOf p xs j = idxOf p (xs.drop k) (j + k)
  | xs, 0, j, _ => by simp
  | [], k + 1, j, _ => by simp [idxOf]
  | x :: xs, k + 1, j, h => by
    rw [idxOf, h 0 (by omega) x rfl, List.drop_succ_cons, if_neg (by simp)]
    rw [idxOf_step (k := k) (j := j + 1) (fun i hi y hy => h (i + 1) (by omega) y (by simpa using hy))]
    congr 1; omega
theorem idxOf_hit {α : Type} {p : α → Bool} {xs : List α} {k : Nat} (hk : k < xs.length) (h : ∀ i, i < k → ∀ x, xs[i]? = some x → p x = false) (hp : p xs[k] = true) : idxOf p xs 0 = k := by
  rw [idxOf_step h, List.drop_eq_getElem_cons hk, idxOf, if_pos hp]; simp
theorem idxOf_none {α : Type} {p : α → Bool} {xs : List α} (h : ∀ i, i < xs.length → ∀ x, xs[i]? = some x → p x = false) : idxOf p xs 0 = -1 := by
  rw [idxOf_step h, List.drop_length, idxOf]
theorem before_step {α : Type} {p : α → Bool} {xs : List α} {k : Nat} (hk : k < xs.length) (h : ∀ i, i < k → ∀ x, xs[i]? = some x → p x = false) (hp : p xs[k] = false) : ∀ i, i < k + 1 → ∀ x, xs[i]? = some x → p x = false := by
  intro i hi x hx
  rcases Nat.lt_or_ge i k with h' | h'
  · exact h i h' x hx
  · have : i = k := by omega
    subst this
    rw [List.getElem?_eq_getElem hk] at hx; cases hx; exact hp
theorem any_idxOf {α : Type} {p : α → Bool} : ∀ {xs : List α} {k : Nat}, decide (0 ≤ idxOf p xs k) = xs.any p
  | [], k => by simp [idxOf]
  | x :: xs, k => by
    rw [idxOf, List.any_cons]
    cases hp : p x with
    | true => simp
    | false => rw [if_neg (by simp), any_idxOf, Bool.false_or]
theorem idxOf_lt {α : Type} {p : α → Bool} : ∀ {xs : List α} {k : Nat}, idxOf p xs k < k + xs.length ∧ -1 ≤ idxOf p xs k
  | [], k => by simp [idxOf]; omega
  | x :: xs, k => by
    rw [idxOf]
    split
    · simp; omega
    · have := idxOf_lt (p := p) (xs := xs) (k := k + 1)
      simp only [List.length_cons]
      omega
theorem any_all {α : Type} {p : α → Bool} {xs : List α} (h : ∀ i, i < xs.length → ∀ x, xs[i]? = some x → p x = false) : xs.any p = false := by
  rw [← any_idxOf (k := 0), idxOf_none h]; rfl
theorem any_hit {α : Type} {p : α → Bool} {xs : List α} {k : Nat} (hk : k < xs.length) (hp : p xs[k] = true) : xs.any p = true :=
  List.any_eq_true.2 ⟨_, List.getElem_mem hk, hp⟩
end Go.AM

/- Plain laws that walks of the generated helpers need. -/
namespace Go.AM
theorem strs_len {xs : List Str} : (xs.map strRow).length = xs.length := List.length_map _
theorem digs0 : ∀ {f : Nat} {o : Str}, digs f 0 o = o
  | 0, o => rfl
  | f + 1, o => by rw [digs, if_pos rfl]
theorem byteConv {n : Nat} (h : n < 256) : AV.d (.int .u8 (wr .u8 (n : Int))) = .d (.int .u8 ((UInt8.ofNat n).toNat : Int)) := by
  have : (UInt8.ofNat n).toNat = n := by simp [Nat.mod_eq_of_lt h]
  rw [this]
  unfold wr; simp [IntKind.wrap, IntKind.bits, IntKind.signed]; omega
theorem fillAt {xs : List Str} {k : Nat} {z : List D} (h : k < xs.length) : ((xs.take k).map strRow ++ List.replicate (xs.length - k) z)[k]? = some z := by
  have hl : ((xs.take k).map strRow).length = k := by simp; omega
  rw [List.getElem?_append_right (by omega), hl, Nat.sub_self, List.getElem?_replicate, if_pos (by omega)]
theorem fillSet {xs : List Str} {k : Nat} {z : List D} (h : k < xs.length) : ((xs.take k).map strRow ++ List.replicate (xs.length - k) z).set k (strRow xs[k]) = (xs.take (k + 1)).map strRow ++ List.replicate (xs.length - (k + 1)) z := by
  have hl : ((xs.take k).map strRow).length = k := by simp; omega
  rw [List.set_append_right _ _ (by omega), hl, Nat.sub_self, show xs.length - k = (xs.length - (k + 1)) + 1 from by omega, List.replicate_succ, List.set_cons_zero, take_succ h, List.map_append, List.append_assoc]
  rfl
theorem markAt {xs : List Str} {k k0 : Nat} (h : k < xs.length) : ((marks k0 k ++ xs.drop k).map strRow)[k]? = some (strRow xs[k]) := by
  rw [List.getElem?_map, List.getElem?_append_right (by rw [marks_length]; exact Nat.le_refl _), marks_length]
  simp [h]
theorem marks_succ (k0 k : Nat) : marks k0 (k + 1) = marks k0 k ++ [mkT (k0 + k)] := by
  unfold marks; rw [List.range_succ, List.map_append]; rfl
theorem markSet {xs : List Str} {k k0 : Nat} (h : k < xs.length) : ((marks k0 k ++ xs.drop k).map strRow).set k (strRow (mkT (k0 + k))) = (marks k0 (k + 1) ++ xs.drop (k + 1)).map strRow := by
  rw [← List.map_set, List.set_append_right _ _ (by rw [marks_length]; exact Nat.le_refl _), marks_length, Nat.sub_self, List.drop_eq_getElem_cons h, List.set_cons_zero, marks_succ, List.append_assoc]
  rfl
theorem marksAt {k0 n k : Nat} (h : k < n) : ((marks k0 n).map strRow)[k]? = some (strRow (mkT (k0 + k))) := by
  rw [List.getElem?_map, marks_get h]; rfl

noncomputable def eqb {α : Type} (a b : α) : Bool := @decide (a = b) (Classical.propDecidable _)
theorem eqb_t {α : Type} {a b : α} (h : a = b) : eqb a b = true := by unfold eqb; simp [h]
theorem eqb_f {α : Type} {a b : α} (h : a ≠ b) : eqb a b = false := by unfold eqb; simp [h]
theorem eqb_iff {α : Type} {a b : α} : eqb a b = true ↔ a = b := by unfold eqb; simp
theorem page_ext {p q : Page} (h1 : p.lsn = q.lsn) (h2 : p.slots = q.slots) : p = q := by cases p; cases q; simp_all
theorem pageOK_f1 {p : Page} (h : (bif false then !inR p.lsn 0 1000 && !decide (((p.slots.map strRow).length : Int) = 4) else !inR p.lsn 0 1000 || !decide (((p.slots.map strRow).length : Int) = 4)) = true) : pageOK p = false := by
  simp only [cond_false, Bool.or_eq_true, strs_len] at h
  unfold pageOK
  rcases h with h | h
  · rw [bT h]; rfl
  · rw [decide_eq_false (by have := nT h; omega)]; simp
theorem pageOK_impl {p : Page} : (bif true then (bif true then inR p.lsn 0 1000 && decide ((p.slots.length : Int) = 4) else inR p.lsn 0 1000 || decide ((p.slots.length : Int) = 4)) && !p.slots.any (fun s => decide ((30 : Int) < (s.length : Int)))
    else (bif true then inR p.lsn 0 1000 && decide ((p.slots.length : Int) = 4) else inR p.lsn 0 1000 || decide ((p.slots.length : Int) = 4)) || !p.slots.any (fun s => decide ((30 : Int) < (s.length : Int)))) = pageOK p := by
  simp only [cond_true, pageOK]
  have e1 : decide ((p.slots.length : Int) = 4) = decide (p.slots.length = 4) := decide_iff (by omega)
  have e2 : (fun s : Str => decide ((30 : Int) < (s.length : Int))) = fun s => decide (30 < s.length) := by funext s; exact decide_iff (by omega)
  rw [e1, e2]

theorem inR_nat {n lo hi : Int} (h : inR n lo hi = true) (h0 : 0 ≤ lo) : ∃ k : Nat, n = k ∧ (k : Int) ≤ hi := by
  unfold inR at h
  rw [Bool.and_eq_true] at h
  have h1 := dT h.1
  have h2 := dT h.2
  exact ⟨n.toNat, by omega, by omega⟩
theorem pageOK_len {p : Page} (h : pageOK p = true) : p.slots.length = 4 := by
  unfold pageOK at h
  simp only [Bool.and_eq_true] at h
  exact dT h.1.2
theorem pageInsert_set {p : Page} {data : Str} (h0 : ¬ (65536 : Int) < (data.length : Int)) (h1 : pageOK p = true) (h2 : inR data.length 1 30 = true) (h3 : ¬ idxOf (fun s => decide (s = [])) p.slots 0 < 0) :
    ∃ k : Nat, idxOf (fun s => decide (s = [])) p.slots 0 = (k : Int) ∧ k < p.slots.length ∧ pageInsert p data = (⟨p.lsn, p.slots.set k data⟩, (k : Int), 0) := by
  have h4 := idxOf_lt (p := fun s : Str => decide (s = [])) (xs := p.slots) (k := 0)
  generalize hg : idxOf (fun s : Str => decide (s = [])) p.slots 0 = g at *
  refine ⟨g.toNat, by omega, by omega, ?_⟩
  unfold pageInsert
  rw [if_neg h0, if_neg (by rw [h1]; simp), if_neg (by rw [h2]; simp), hg]
  simp only [if_neg h3]
  rw [show ((g.toNat : Nat) : Int) = g from by omega]
theorem eqb_rfl {α : Type} (a : α) : eqb a a = true := eqb_t rfl
theorem noisl_rows {e : Nat} {xs : List Str} : ∀ e' ob, get [(e, OB.rows 1 (xs.map strRow))] e' = some ob → noIslO ob := by
  intro e' ob h
  rw [get_cons] at h
  split at h
  · cases h
    intro r hr x hx
    obtain ⟨s, _, rfl⟩ := List.mem_map.1 hr
    rw [strRow, List.mem_singleton] at hx
    subst hx; rfl
  · simp [get] at h
theorem noisl_nil : ∀ e ob, get ([] : List (Nat × OB)) e = some ob → noIslO ob := fun e ob h => by simp [get] at h
theorem pageSet_len {p : Page} {slot lsn : Int} {data : Str} : (pageSet p slot data lsn).1.slots.length ≤ p.slots.length := by
  unfold pageSet
  split
  · exact Nat.zero_le _
  · split
    · exact Nat.zero_le _
    · split
      · exact Nat.zero_le _
      · simp
theorem pageInsert_len {p : Page} {data : Str} : (pageInsert p data).1.slots.length ≤ p.slots.length := by
  unfold pageInsert
  split
  · exact Nat.zero_le _
  · split
    · exact Nat.zero_le _
    · split
      · exact Nat.zero_le _
      · dsimp only
        split
        · exact Nat.le_refl _
        · simp
theorem szF_len {left : Int} {n : Nat} (h : ¬ szF left n < 0) : (n : Int) ≤ left := by
  unfold szF at h
  split at h
  · assumption
  · omega
theorem pageSet_set {p : Page} {slot lsn : Int} {data : Str} (h0 : ¬ (65536 : Int) < (data.length : Int)) (h1 : pageOK p = true) (h2 : (!inR slot 0 3 || decide ((30 : Int) < (data.length : Int)) || !inR lsn 0 1000) = false) :
    pageSet p slot data lsn = (⟨lsn, p.slots.set slot.toNat data⟩, 0) ∧ ∃ k : Nat, slot = k ∧ k < p.slots.length := by
  refine ⟨by unfold pageSet; rw [if_neg h0, if_neg (by rw [h1]; simp), if_neg (by rw [h2]; simp)], ?_⟩
  have h3 : inR slot 0 3 = true := by
    cases h : inR slot 0 3 with
    | true => rfl
    | false => rw [h] at h2; simp at h2
  obtain ⟨k, h4, h5⟩ := inR_nat h3 (by omega)
  exact ⟨k, h4, by rw [pageOK_len h1]; omega⟩
end Go.AM

/- Readings of arguments: integers, strings, rows of strings, pages. -/
namespace Go.AM

section
variable {P : Program} {t e : TypeId} {ds : List D}
theorem hasC_int {k : IntKind} (h : P.underlying t = some (.int k)) (hc : HasC P t ds) : ∃ n, ds = [.int k n] ∧ (Lit.int k n).wf = true := by
  cases hc with
  | int n h' hw => rw [h] at h'; cases h'; exact ⟨n, rfl, hw⟩
  | bool b h' => rw [h] at h'; cases h'
  | str s h' hl => rw [h] at h'; cases h'
  | nilp h' => rw [h] at h'; cases h'
  | ptr h' hr => rw [h] at h'; cases h'
  | slice rows h' hl hr => rw [h] at h'; cases h'
  | struct h' hf => rw [h] at h'; cases h'
theorem hasC_bool (h : P.underlying t = some .bool) (hc : HasC P t ds) : ∃ b, ds = [.bool b] := by
  cases hc with
  | bool b h' => exact ⟨b, rfl⟩
  | int n h' hw => rw [h] at h'; cases h'
  | str s h' hl => rw [h] at h'; cases h'
  | nilp h' => rw [h] at h'; cases h'
  | ptr h' hr => rw [h] at h'; cases h'
  | slice rows h' hl hr => rw [h] at h'; cases h'
  | struct h' hf => rw [h] at h'; cases h'
theorem hasC_str (h : P.underlying t = some .string) (hc : HasC P t ds) : ∃ s : Str, ds = [.str s] ∧ s.length ≤ 9223372036854775807 := by
  cases hc with
  | str s h' hl => exact ⟨s, rfl, hl⟩
  | bool b h' => rw [h] at h'; cases h'
  | int n h' hw => rw [h] at h'; cases h'
  | nilp h' => rw [h] at h'; cases h'
  | ptr h' hr => rw [h] at h'; cases h'
  | slice rows h' hl hr => rw [h] at h'; cases h'
  | struct h' hf => rw [h] at h'; cases h'
theorem hasC_slice (h : P.underlying t = some (.slice e)) (hc : HasC P t ds) : ∃ rows, ds = [.sl (P.cellsOf e) rows] ∧ rows.length ≤ 9223372036854775807 ∧ HasRs P e rows := by
  cases hc with
  | slice rows h' hl hr => rw [h] at h'; cases h'; exact ⟨rows, rfl, hl, hr⟩
  | bool b h' => rw [h] at h'; cases h'
  | int n h' hw => rw [h] at h'; cases h'
  | str s h' hl => rw [h] at h'; cases h'
  | nilp h' => rw [h] at h'; cases h'
  | ptr h' hr => rw [h] at h'; cases h'
  | struct h' hf => rw [h] at h'; cases h'
theorem hasC_ptr (h : P.underlying t = some (.pointer e)) (hc : HasC P t ds) : ds = [.nilp] ∨ ∃ r, ds = [.ip r] ∧ HasC P e r := by
  cases hc with
  | nilp h' => exact .inl rfl
  | ptr h' hr => rw [h] at h'; cases h'; exact .inr ⟨_, rfl, hr⟩
  | slice rows h' hl hr => rw [h] at h'; cases h'
  | bool b h' => rw [h] at h'; cases h'
  | int n h' hw => rw [h] at h'; cases h'
  | str s h' hl => rw [h] at h'; cases h'
  | struct h' hf => rw [h] at h'; cases h'
theorem hasC_struct {fs : Array Field} (h : P.underlying t = some (.struct fs)) (hc : HasC P t ds) : HasFs P fs.toList ds := by
  cases hc with
  | struct h' hf => rw [h] at h'; cases h'; exact hf
  | nilp h' => rw [h] at h'; cases h'
  | ptr h' hr => rw [h] at h'; cases h'
  | slice rows h' hl hr => rw [h] at h'; cases h'
  | bool b h' => rw [h] at h'; cases h'
  | int n h' hw => rw [h] at h'; cases h'
  | str s h' hl => rw [h] at h'; cases h'
theorem hasFs_cons {f : Field} {fs : List Field} (h : HasFs P (f :: fs) ds) : ∃ a b, ds = a ++ b ∧ HasC P f.type a ∧ HasFs P fs b := by
  cases h with
  | cons h1 h2 => exact ⟨_, _, rfl, h1, h2⟩
theorem hasFs_nil (h : HasFs P [] ds) : ds = [] := by cases h; rfl
theorem hasRs_map {α : Type} {f : α → List D} {ok : α → Prop} (hf : ∀ ds, HasC P e ds → ∃ x, ds = f x ∧ ok x) : ∀ {rows : List (List D)}, HasRs P e rows → ∃ xs : List α, rows = xs.map f ∧ ∀ x ∈ xs, ok x
  | [], _ => ⟨[], rfl, fun x hx => by cases hx⟩
  | r :: rs, h => by
    cases h with
    | cons h1 h2 =>
      obtain ⟨x, rfl, h3⟩ := hf r h1
      obtain ⟨xs, rfl, h4⟩ := hasRs_map hf h2
      exact ⟨x :: xs, rfl, fun y hy => by
        rcases List.mem_cons.1 hy with rfl | hy
        · exact h3
        · exact h4 y hy⟩
theorem has_strs (h : P.underlying t = some (.slice e)) (he : P.underlying e = some .string) (hz : P.cellsOf e = 1) (hc : HasC P t ds) : ∃ xs : List Str, ds = [strs xs] ∧ wfStrs xs := by
  obtain ⟨rows, rfl, h1, h2⟩ := hasC_slice h hc
  obtain ⟨xs, rfl, h3⟩ := hasRs_map (f := strRow) (ok := fun s : Str => s.length ≤ 9223372036854775807) (fun ds hd => by
    obtain ⟨s, rfl, h4⟩ := hasC_str he hd
    exact ⟨s, rfl, h4⟩) h2
  exact ⟨xs, by rw [hz]; rfl, by simpa using h1, h3⟩
theorem has_page {fs : Array Field} {f0 f1 : Field} (h : P.underlying t = some (.struct fs)) (hfs : fs.toList = [f0, f1]) (h0 : P.underlying f0.type = some (.int .i64)) (h1 : P.underlying f1.type = some (.slice e)) (he : P.underlying e = some .string)
    (hz : P.cellsOf e = 1) (hc : HasC P t ds) : ∃ p : Page, ds = [.int .i64 p.lsn, strs p.slots] ∧ wfStrs p.slots := by
  have h2 := hasC_struct h hc
  rw [hfs] at h2
  obtain ⟨a, b, rfl, h3, h4⟩ := hasFs_cons h2
  obtain ⟨a', b', rfl, h5, h6⟩ := hasFs_cons h4
  obtain ⟨n, rfl, _⟩ := hasC_int h0 h3
  obtain ⟨xs, rfl, hw⟩ := has_strs h1 he hz h5
  have := hasFs_nil h6
  subst this
  exact ⟨⟨n, xs⟩, rfl, hw⟩
end
end Go.AM

