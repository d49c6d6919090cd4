/- Plain laws about strings, marks, types of the program and what its functions compute; readings of arguments. -/
import Derived.Test.YtioeeemlghkekaaC
/- Plain data of the program, as Lean sees it: strings, rows of strings, marks. -/
namespace Go.AM

abbrev Str := List UInt8
def strRow (s : Str) : List D := [.str s]
def strs (xs : List Str) : D := .sl 1 (xs.map strRow)

/-- What 'sz..' counts. -/
def szF (left : Int) (n : Nat) : Int := if (n : Int) ≤ left then left - n else -1
def sumL : List Str → Nat
  | [] => 0
  | s :: r => s.length + sumL r
def szStrs (xs : List Str) : Nat := xs.length + sumL xs
theorem sumL_append : ∀ (a b : List Str), sumL (a ++ b) = sumL a + sumL b
  | [], b => by simp [sumL]
  | x :: a, b => by rw [List.cons_append, sumL, sumL, sumL_append a b]; omega
theorem take_succ {α : Type} {xs : List α} {k : Nat} (h : k < xs.length) : xs.take (k + 1) = xs.take k ++ [xs[k]] := by
  rw [List.take_add_one, List.getElem?_eq_getElem h]; rfl
theorem sumL_take {xs : List Str} {k : Nat} (h : k < xs.length) : sumL (xs.take (k + 1)) = sumL (xs.take k) + xs[k].length := by
  rw [take_succ h, sumL_append]; simp [sumL]
theorem sumL_le (xs : List Str) (k : Nat) : sumL (xs.take k) ≤ sumL xs := by
  conv => rhs; rw [← List.take_append_drop k xs]
  rw [sumL_append]; omega
theorem sumL_mem {xs : List Str} {s : Str} (h : s ∈ xs) : s.length ≤ sumL xs := by
  induction xs with
  | nil => cases h
  | cons x r ih =>
    rw [sumL]
    rcases List.mem_cons.1 h with rfl | h
    · omega
    · have := ih h; omega

/-- Lengths that Go has. -/
def wfStrs (xs : List Str) : Prop := xs.length ≤ 9223372036854775807 ∧ ∀ s ∈ xs, s.length ≤ 9223372036854775807

/-! Marks. -/
def digs : Nat → Nat → Str → Str
  | 0, _, out => out
  | f + 1, n, out => if n = 0 then out else digs f (n / 10) (UInt8.ofNat (48 + n % 10) :: out)
def mkT (k : Nat) : Str := if k = 0 then [109, 48] else 109 :: digs 20 k []
def marks (k n : Nat) : List Str := (List.range n).map fun i => mkT (k + i)
theorem marks_length (k n : Nat) : (marks k n).length = n := by simp [marks]
theorem marks_get {k n i : Nat} (h : i < n) : (marks k n)[i]? = some (mkT (k + i)) := by simp [marks, h]

theorem decide_iff {p q : Prop} [Decidable p] [Decidable q] (h : p ↔ q) : decide p = decide q := by
  by_cases hp : p
  · rw [decide_eq_true hp, decide_eq_true (h.1 hp)]
  · rw [decide_eq_false hp, decide_eq_false (fun hq => hp (h.2 hq))]
theorem eq_of_take {α : Type} {xs ys : List α} (hl : xs.length = ys.length) (h : xs.take xs.length = ys.take xs.length) : xs = ys := by
  rw [List.take_length] at h
  rw [h, hl, List.take_length]
theorem take_step {α : Type} {xs ys : List α} {k : Nat} (hx : k < xs.length) (hy : k < ys.length) (h : xs.take k = ys.take k) (he : xs[k] = ys[k]) : xs.take (k + 1) = ys.take (k + 1) := by
  rw [take_succ hx, take_succ hy, h, he]

structure Page where
  lsn : Int
  slots : List Str
def Page.av (p : Page) : AV := .agg [int p.lsn, .d (strs p.slots)]

theorem lend_whole {own : List (Nat × OB)} {e sz len : Nat} {rs : List (List D)} (h : get own e = some (.rows sz rs)) (hl : len = rs.length) : Lend own (.osl e sz 0 len) (.sl sz rs) :=
  .osl h (by omega) (by rw [List.drop_zero, hl, List.take_length])
end Go.AM

/- Plain laws: pages. -/
namespace Go.AM

def inR (n lo hi : Int) : Bool := decide (lo ≤ n) && decide (n ≤ hi)
def Page.zero : Page := ⟨0, []⟩
/-- A page whose slots are own. -/
abbrev pageO (e : Nat) (p : Page) : AV := .agg [int p.lsn, .osl e 1 0 p.slots.length]
abbrev pageH (e : Nat) (p : Page) : List (Nat × OB) := [(e, .rows 1 (p.slots.map strRow))]

def pageOK (p : Page) : Bool := inR p.lsn 0 1000 && decide (p.slots.length = 4) && !p.slots.any (fun s => decide (30 < s.length))
def pageSet (p : Page) (slot : Int) (data : Str) (lsn : Int) : Page × Int :=
  if (65536 : Int) < (data.length : Int) then (.zero, 2) else
  if pageOK p = false then (.zero, 1) else
  if (!inR slot 0 3 || decide ((30 : Int) < (data.length : Int)) || !inR lsn 0 1000) = true then (.zero, 4) else
  (⟨lsn, p.slots.set slot.toNat data⟩, 0)
def idxOf {α : Type} (p : α → Bool) : List α → Nat → Int
  | [], _ => -1
  | x :: xs, k => if p x then k else idxOf p xs (k + 1)
def pageInsert (p : Page) (data : Str) : Page × Int × Int :=
  if (65536 : Int) < (data.length : Int) then (.zero, 0, 2) else
  if pageOK p = false then (.zero, 0, 1) else
  if inR data.length 1 30 = false then (.zero, 0, 4) else
  let k := idxOf (fun s => decide (s = [])) p.slots 0
  if k < 0 then (p, 0, 7) else (⟨p.lsn, p.slots.set k.toNat data⟩, k, 0)

/-- Not found so far. -/
theorem idxOf_step {α : Type} {p : α → Bool} : ∀ {xs : List α} {k j : Nat}, (∀ i, i < k → ∀ x, xs[i]? = some x → p x = false) → idxOf p xs j = idxOf p (xs.drop k) (j + k)
  | xs, 0, j, _ => by simp
  | [], k + 1, j, _ => by simp [idxOf]
  | x :: xs, k + 1, j, h => by
    rw [idxOf, h 0 (by omega) x rfl, List.drop_succ_cons, if_neg (by simp)]
    rw [idxOf_step (k := k) (j := j + 1) (fun i hi y hy => h (i + 1) (by omega) y (by simpa using hy))]
    congr 1; omega
theorem idxOf_hit {α : Type} {p : α → Bool} {xs : List α} {k : Nat} (hk : k < xs.length) (h : ∀ i, i < k → ∀ x, xs[i]? = some x → p x = false) (hp : p xs[k] = true) : idxOf p xs 0 = k := by
  rw [idxOf_step h, List.drop_eq_getElem_cons hk, idxOf, if_pos hp]; simp
theorem idxOf_none {α : Type} {p : α → Bool} {xs : List α} (h : ∀ i, i < xs.length → ∀ x, xs[i]? = some x → p x = false) : idxOf p xs 0 = -1 := by
  rw [idxOf_step h, List.drop_length, idxOf]
theorem before_step {α : Type} {p : α → Bool} {xs : List α} {k : Nat} (hk : k < xs.length) (h : ∀ i, i < k → ∀ x, xs[i]? = some x → p x = false) (hp : p xs[k] = false) : ∀ i, i < k + 1 → ∀ x, xs[i]? = some x → p x = false := by
  intro i hi x hx
  rcases Nat.lt_or_ge i k with h' | h'
  · exact h i h' x hx
  · have : i = k := by omega
    subst this
    rw [List.getElem?_eq_getElem hk] at hx; cases hx; exact hp
theorem any_idxOf {α : Type} {p : α → Bool} : ∀ {xs : List α} {k : Nat}, decide (0 ≤ idxOf p xs k) = xs.any p
  | [], k => by simp [idxOf]
  | x :: xs, k => by
    rw [idxOf, List.any_cons]
    cases hp : p x with
    | true => simp
    | false => rw [if_neg (by simp), any_idxOf, Bool.false_or]
theorem idxOf_lt {α : Type} {p : α → Bool} : ∀ {xs : List α} {k : Nat}, idxOf p xs k < k + xs.length ∧ -1 ≤ idxOf p xs k
  | [], k => by simp [idxOf]; omega
  | x :: xs, k => by
    rw [idxOf]
    split
    · simp; omega
    · have := idxOf_lt (p := p) (xs := xs) (k := k + 1)
      simp only [List.length_cons]
      omega
theorem any_all {α : Type} {p : α → Bool} {xs : List α} (h : ∀ i, i < xs.length → ∀ x, xs[i]? = some x → p x = false) : xs.any p = false := by
  rw [← any_idxOf (k := 0), idxOf_none h]; rfl
theorem any_hit {α : Type} {p : α → Bool} {xs : List α} {k : Nat} (hk : k < xs.length) (hp : p xs[k] = true) : xs.any p = true :=
  List.any_eq_true.2 ⟨_, List.getElem_mem hk, hp⟩
end Go.AM

/- Plain laws that walks of the generated helpers need. -/
namespace Go.AM
theorem strs_len {xs : List Str} : (xs.map strRow).length = xs.length := List.length_map _
theorem digs0 : ∀ {f : Nat} {o : Str}, digs f 0 o = o
  | 0, o => rfl
  | f + 1, o => by rw [digs, if_pos rfl]
theorem byteConv {n : Nat} (h : n < 256) : AV.d (.int .u8 (wr .u8 (n : Int))) = .d (.int .u8 ((UInt8.ofNat n).toNat : Int)) := by
  have : (UInt8.ofNat n).toNat = n := by simp [Nat.mod_eq_of_lt h]
  rw [this]
  unfold wr; simp [IntKind.wrap, IntKind.bits, IntKind.signed]; omega
theorem fillAt {xs : List Str} {k : Nat} {z : List D} (h : k < xs.length) : ((xs.take k).map strRow ++ List.replicate (xs.length - k) z)[k]? = some z := by
  have hl : ((xs.take k).map strRow).length = k := by simp; omega
  rw [List.getElem?_append_right (by omega), hl, Nat.sub_self, List.getElem?_replicate, if_pos (by omega)]
theorem fillSet {xs : List Str} {k : Nat} {z : List D} (h : k < xs.length) : ((xs.take k).map strRow ++ List.replicate (xs.length - k) z).set k (strRow xs[k]) = (xs.take (k + 1)).map strRow ++ List.replicate (xs.length - (k + 1)) z := by
  have hl : ((xs.take k).map strRow).length = k := by simp; omega
  rw [List.set_append_right _ _ (by omega), hl, Nat.sub_self, show xs.length - k = (xs.length - (k + 1)) + 1 from by omega, List.replicate_succ, List.set_cons_zero, take_succ h, List.map_append, List.append_assoc]
  rfl
theorem markAt {xs : List Str} {k k0 : Nat} (h : k < xs.length) : ((marks k0 k ++ xs.drop k).map strRow)[k]? = some (strRow xs[k]) := by
  rw [List.getElem?_map, List.getElem?_append_right (by rw [marks_length]; exact Nat.le_refl _), marks_length]
  simp [h]
theorem marks_succ (k0 k : Nat) : marks k0 (k + 1) = marks k0 k ++ [mkT (k0 + k)] := by
  unfold marks; rw [List.range_succ, List.map_append]; rfl
theorem markSet {xs : List Str} {k k0 : Nat} (h : k < xs.length) : ((marks k0 k ++ xs.drop k).map strRow).set k (strRow (mkT (k0 + k))) = (marks k0 (k + 1) ++ xs.drop (k + 1)).map strRow := by
  rw [← List.map_set, List.set_append_right _ _ (by rw [marks_length]; exact Nat.le_refl _), marks_length, Nat.sub_self, List.drop_eq_getElem_cons h, List.set_cons_zero, marks_succ, List.append_assoc]
  rfl
theorem marksAt {k0 n k : Nat} (h : k < n) : ((marks k0 n).map strRow)[k]? = some (strRow (mkT (k0 + k))) := by
  rw [List.getElem?_map, marks_get h]; rfl

noncomputable def eqb {α : Type} (a b : α) : Bool := @decide (a = b) (Classical.propDecidable _)
theorem eqb_t {α : Type} {a b : α} (h : a = b) : eqb a b = true := by unfold eqb; simp [h]
theorem eqb_f {α : Type} {a b : α} (h : a ≠ b) : eqb a b = false := by unfold eqb; simp [h]
theorem eqb_iff {α : Type} {a b : α} : eqb a b = true ↔ a = b := by unfold eqb; simp
theorem page_ext {p q : Page} (h1 : p.lsn = q.lsn) (h2 : p.slots = q.slots) : p = q := by cases p; cases q; simp_all
theorem pageOK_f1 {p : Page} (h : (bif false then !inR p.lsn 0 1000 && !decide (((p.slots.map strRow).length : Int) = 4) else !inR p.lsn 0 1000 || !decide (((p.slots.map strRow).length : Int) = 4)) = true) : pageOK p = false := by
  simp only [cond_false, Bool.or_eq_true, strs_len] at h
  unfold pageOK
  rcases h with h | h
  · rw [bT h]; rfl
  · rw [decide_eq_false (by have := nT h; omega)]; simp
theorem pageOK_impl {p : Page} : (bif true then (bif true then inR p.lsn 0 1000 && decide ((p.slots.length : Int) = 4) else inR p.lsn 0 1000 || decide ((p.slots.length : Int) = 4)) && !p.slots.any (fun s => decide ((30 : Int) < (s.length : Int)))
    else (bif true then inR p.lsn 0 1000 && decide ((p.slots.length : Int) = 4) else inR p.lsn 0 1000 || decide ((p.slots.length : Int) = 4)) || !p.slots.any (fun s => decide ((30 : Int) < (s.length : Int)))) = pageOK p := by
  simp only [cond_true, pageOK]
  have e1 : decide ((p.slots.length : Int) = 4) = decide (p.slots.length = 4) := decide_iff (by omega)
  have e2 : (fun s : Str => decide ((30 : Int) < (s.length : Int))) = fun s => decide (30 < s.length) := by funext s; exact decide_iff (by omega)
  rw [e1, e2]

theorem inR_nat {n lo hi : Int} (h : inR n lo hi = true) (h0 : 0 ≤ lo) : ∃ k : Nat, n = k ∧ (k : Int) ≤ hi := by
  unfold inR at h
  rw [Bool.and_eq_true] at h
  have h1 := dT h.1
  have h2 := dT h.2
  exact ⟨n.toNat, by omega, by omega⟩
theorem pageOK_len {p : Page} (h : pageOK p = true) : p.slots.length = 4 := by
  unfold pageOK at h
  simp only [Bool.and_eq_true] at h
  exact dT h.1.2
theorem pageInsert_set {p : Page} {data : Str} (h0 : ¬ (65536 : Int) < (data.length : Int)) (h1 : pageOK p = true) (h2 : inR data.length 1 30 = true) (h3 : ¬ idxOf (fun s => decide (s = [])) p.slots 0 < 0) :
    ∃ k : Nat, idxOf (fun s => decide (s = [])) p.slots 0 = (k : Int) ∧ k < p.slots.length ∧ pageInsert p data = (⟨p.lsn, p.slots.set k data⟩, (k : Int), 0) := by
  have h4 := idxOf_lt (p := fun s : Str => decide (s = [])) (xs := p.slots) (k := 0)
  generalize hg : idxOf (fun s : Str => decide (s = [])) p.slots 0 = g at *
  refine ⟨g.toNat, by omega, by omega, ?_⟩
  unfold pageInsert
  rw [if_neg h0, if_neg (by rw [h1]; simp), if_neg (by rw [h2]; simp), hg]
  simp only [if_neg h3]
  rw [show ((g.toNat : Nat) : Int) = g from by omega]
theorem eqb_rfl {α : Type} (a : α) : eqb a a = true := eqb_t rfl
theorem noisl_rows {e : Nat} {xs : List Str} : ∀ e' ob, get [(e, OB.rows 1 (xs.map strRow))] e' = some ob → noIslO ob := by
  intro e' ob h
  rw [get_cons] at h
  split at h
  · cases h
    intro r hr x hx
    obtain ⟨s, _, rfl⟩ := List.mem_map.1 hr
    rw [strRow, List.mem_singleton] at hx
    subst hx; rfl
  · simp [get] at h
theorem noisl_nil : ∀ e ob, get ([] : List (Nat × OB)) e = some ob → noIslO ob := fun e ob h => by simp [get] at h
theorem pageSet_len {p : Page} {slot lsn : Int} {data : Str} : (pageSet p slot data lsn).1.slots.length ≤ p.slots.length := by
  unfold pageSet
  split
  · exact Nat.zero_le _
  · split
    · exact Nat.zero_le _
    · split
      · exact Nat.zero_le _
      · simp
theorem pageInsert_len {p : Page} {data : Str} : (pageInsert p data).1.slots.length ≤ p.slots.length := by
  unfold pageInsert
  split
  · exact Nat.zero_le _
  · split
    · exact Nat.zero_le _
    · split
      · exact Nat.zero_le _
      · dsimp only
        split
        · exact Nat.le_refl _
        · simp
theorem szF_len {left : Int} {n : Nat} (h : ¬ szF left n < 0) : (n : Int) ≤ left := by
  unfold szF at h
  split at h
  · assumption
  · omega
theorem pageSet_set {p : Page} {slot lsn : Int} {data : Str} (h0 : ¬ (65536 : Int) < (data.length : Int)) (h1 : pageOK p = true) (h2 : (!inR slot 0 3 || decide ((30 : Int) < (data.length : Int)) || !inR lsn 0 1000) = false) :
    pageSet p slot data lsn = (⟨lsn, p.slots.set slot.toNat data⟩, 0) ∧ ∃ k : Nat, slot = k ∧ k < p.slots.length := by
  refine ⟨by unfold pageSet; rw [if_neg h0, if_neg (by rw [h1]; simp), if_neg (by rw [h2]; simp)], ?_⟩
  have h3 : inR slot 0 3 = true := by
    cases h : inR slot 0 3 with
    | true => rfl
    | false => rw [h] at h2; simp at h2
  obtain ⟨k, h4, h5⟩ := inR_nat h3 (by omega)
  exact ⟨k, h4, by rw [pageOK_len h1]; omega⟩
end Go.AM

/- Readings of arguments: integers, strings, rows of strings, pages. -/
namespace Go.AM

section
variable {P : Program} {t e : TypeId} {ds : List D}
theorem hasC_int {k : IntKind} (h : P.underlying t = some (.int k)) (hc : HasC P t ds) : ∃ n, ds = [.int k n] ∧ (Lit.int k n).wf = true := by
  cases hc with
  | int n h' hw => rw [h] at h'; cases h'; exact ⟨n, rfl, hw⟩
  | bool b h' => rw [h] at h'; cases h'
  | str s h' hl => rw [h] at h'; cases h'
  | nilp h' => rw [h] at h'; cases h'
  | ptr h' hr => rw [h] at h'; cases h'
  | slice rows h' hl hr => rw [h] at h'; cases h'
  | struct h' hf => rw [h] at h'; cases h'
theorem hasC_bool (h : P.underlying t = some .bool) (hc : HasC P t ds) : ∃ b, ds = [.bool b] := by
  cases hc with
  | bool b h' => exact ⟨b, rfl⟩
  | int n h' hw => rw [h] at h'; cases h'
  | str s h' hl => rw [h] at h'; cases h'
  | nilp h' => rw [h] at h'; cases h'
  | ptr h' hr => rw [h] at h'; cases h'
  | slice rows h' hl hr => rw [h] at h'; cases h'
  | struct h' hf => rw [h] at h'; cases h'
theorem hasC_str (h : P.underlying t = some .string) (hc : HasC P t ds) : ∃ s : Str, ds = [.str s] ∧ s.length ≤ 9223372036854775807 := by
  cases hc with
  | str s h' hl => exact ⟨s, rfl, hl⟩
  | bool b h' => rw [h] at h'; cases h'
  | int n h' hw => rw [h] at h'; cases h'
  | nilp h' => rw [h] at h'; cases h'
  | ptr h' hr => rw [h] at h'; cases h'
  | slice rows h' hl hr => rw [h] at h'; cases h'
  | struct h' hf => rw [h] at h'; cases h'
theorem hasC_slice (h : P.underlying t = some (.slice e)) (hc : HasC P t ds) : ∃ rows, ds = [.sl (P.cellsOf e) rows] ∧ rows.length ≤ 9223372036854775807 ∧ HasRs P e rows := by
  cases hc with
  | slice rows h' hl hr => rw [h] at h'; cases h'; exact ⟨rows, rfl, hl, hr⟩
  | bool b h' => rw [h] at h'; cases h'
  | int n h' hw => rw [h] at h'; cases h'
  | str s h' hl => rw [h] at h'; cases h'
  | nilp h' => rw [h] at h'; cases h'
  | ptr h' hr => rw [h] at h'; cases h'
  | struct h' hf => rw [h] at h'; cases h'
theorem hasC_ptr (h : P.underlying t = some (.pointer e)) (hc : HasC P t ds) : ds = [.nilp] ∨ ∃ r, ds = [.ip r] ∧ HasC P e r := by
  cases hc with
  | nilp h' => exact .inl rfl
  | ptr h' hr => rw [h] at h'; cases h'; exact .inr ⟨_, rfl, hr⟩
  | slice rows h' hl hr => rw [h] at h'; cases h'
  | bool b h' => rw [h] at h'; cases h'
  | int n h' hw => rw [h] at h'; cases h'
  | str s h' hl => rw [h] at h'; cases h'
  | struct h' hf => rw [h] at h'; cases h'
theorem hasC_struct {fs : Array Field} (h : P.underlying t = some (.struct fs)) (hc : HasC P t ds) : HasFs P fs.toList ds := by
  cases hc with
  | struct h' hf => rw [h] at h'; cases h'; exact hf
  | nilp h' => rw [h] at h'; cases h'
  | ptr h' hr => rw [h] at h'; cases h'
  | slice rows h' hl hr => rw [h] at h'; cases h'
  | bool b h' => rw [h] at h'; cases h'
  | int n h' hw => rw [h] at h'; cases h'
  | str s h' hl => rw [h] at h'; cases h'
theorem hasFs_cons {f : Field} {fs : List Field} (h : HasFs P (f :: fs) ds) : ∃ a b, ds = a ++ b ∧ HasC P f.type a ∧ HasFs P fs b := by
  cases h with
  | cons h1 h2 => exact ⟨_, _, rfl, h1, h2⟩
theorem hasFs_nil (h : HasFs P [] ds) : ds = [] := by cases h; rfl
theorem hasRs_map {α : Type} {f : α → List D} {ok : α → Prop} (hf : ∀ ds, HasC P e ds → ∃ x, ds = f x ∧ ok x) : ∀ {rows : List (List D)}, HasRs P e rows → ∃ xs : List α, rows = xs.map f ∧ ∀ x ∈ xs, ok x
  | [], _ => ⟨[], rfl, fun x hx => by cases hx⟩
  | r :: rs, h => by
    cases h with
    | cons h1 h2 =>
      obtain ⟨x, rfl, h3⟩ := hf r h1
      obtain ⟨xs, rfl, h4⟩ := hasRs_map hf h2
      exact ⟨x :: xs, rfl, fun y hy => by
        rcases List.mem_cons.1 hy with rfl | hy
        · exact h3
        · exact h4 y hy⟩
theorem has_strs (h : P.underlying t = some (.slice e)) (he : P.underlying e = some .string) (hz : P.cellsOf e = 1) (hc : HasC P t ds) : ∃ xs : List Str, ds = [strs xs] ∧ wfStrs xs := by
  obtain ⟨rows, rfl, h1, h2⟩ := hasC_slice h hc
  obtain ⟨xs, rfl, h3⟩ := hasRs_map (f := strRow) (ok := fun s : Str => s.length ≤ 9223372036854775807) (fun ds hd => by
    obtain ⟨s, rfl, h4⟩ := hasC_str he hd
    exact ⟨s, rfl, h4⟩) h2
  exact ⟨xs, by rw [hz]; rfl, by simpa using h1, h3⟩
theorem has_page {fs : Array Field} {f0 f1 : Field} (h : P.underlying t = some (.struct fs)) (hfs : fs.toList = [f0, f1]) (h0 : P.underlying f0.type = some (.int .i64)) (h1 : P.underlying f1.type = some (.slice e)) (he : P.underlying e = some .string)
    (hz : P.cellsOf e = 1) (hc : HasC P t ds) : ∃ p : Page, ds = [.int .i64 p.lsn, strs p.slots] ∧ wfStrs p.slots := by
  have h2 := hasC_struct h hc
  rw [hfs] at h2
  obtain ⟨a, b, rfl, h3, h4⟩ := hasFs_cons h2
  obtain ⟨a', b', rfl, h5, h6⟩ := hasFs_cons h4
  obtain ⟨n, rfl, _⟩ := hasC_int h0 h3
  obtain ⟨xs, rfl, hw⟩ := has_strs h1 he hz h5
  have := hasFs_nil h6
  subst this
  exact ⟨⟨n, xs⟩, rfl, hw⟩
end
end Go.AM

/- Plain laws for walks: conditions, lengths, sizes, marks. -/
namespace Go.AM
theorem and_T {a b : Bool} (h : (a && b) = true) : a = true ∧ b = true := by simpa using h
theorem and_F {a b : Bool} (h : (a && b) = false) : a = false ∨ b = false := by cases a <;> cases b <;> simp_all
theorem mem1 {p : Nat → Prop} {n : Nat} (h : p n) : ∀ e ∈ [n], p e := fun e he => by
  rw [List.mem_singleton] at he; subst he; exact h
theorem mem2 {p : Nat → Prop} {n m : Nat} (h : p n) (h2 : p m) : ∀ e ∈ [n, m], p e := fun e he => by
  rcases List.mem_cons.1 he with rfl | he
  · exact h
  · exact mem1 h2 e he
theorem mem3 {p : Nat → Prop} {n m k : Nat} (h : p n) (h2 : p m) (h3 : p k) : ∀ e ∈ [n, m, k], p e := fun e he => by
  rcases List.mem_cons.1 he with rfl | he
  · exact h
  · exact mem2 h2 h3 e he
theorem mem4 {p : Nat → Prop} {n m k l : Nat} (h : p n) (h2 : p m) (h3 : p k) (h4 : p l) : ∀ e ∈ [n, m, k, l], p e := fun e he => by
  rcases List.mem_cons.1 he with rfl | he
  · exact h
  · exact mem3 h2 h3 h4 e he
section
variable {C : Cx} {q : Bool} {gs : List Gd} {K : St → Prop}
theorem ax_and {d j c : Nat} {t y : Bool} {grp : List XI} {s : XA} {its : List XI} {sl : List (Nat × AV)} {own : List (Nat × OB)}
    (hc : get sl c = some (.d (.bool t))) (hfr : frS (dstsL grp) sl = true)
    (hgrp : t = true → AXI C q (⟨j, true, c⟩ :: gs) grp ⟨sl, own⟩ (fun st' => evA st'.sl s = some (.d (.bool y)) ∧ St.le ⟨sl, own⟩ st'))
    (h : AXI C q gs its ⟨(d, .d (.bool (t && y))) :: sl, own⟩ K) : AXI C q gs (.andor d true j c grp s :: its) ⟨sl, own⟩ K := ax_andor hc hfr hgrp h
theorem ax_or {d j c : Nat} {t y : Bool} {grp : List XI} {s : XA} {its : List XI} {sl : List (Nat × AV)} {own : List (Nat × OB)}
    (hc : get sl c = some (.d (.bool t))) (hfr : frS (dstsL grp) sl = true)
    (hgrp : t = false → AXI C q (⟨j, false, c⟩ :: gs) grp ⟨sl, own⟩ (fun st' => evA st'.sl s = some (.d (.bool y)) ∧ St.le ⟨sl, own⟩ st'))
    (h : AXI C q gs its ⟨(d, .d (.bool (t || y))) :: sl, own⟩ K) : AXI C q gs (.andor d false j c grp s :: its) ⟨sl, own⟩ K := ax_andor hc hfr hgrp h
end
theorem bneT {a b : Bool} (h : (a != b) = true) : a ≠ b := by simpa using h
theorem bneF {a b : Bool} (h : (a != b) = false) : a = b := by simpa using h
theorem beqT {a b : Bool} (h : (a == b) = true) : a = b := by simpa using h
theorem beqF {a b : Bool} (h : (a == b) = false) : a ≠ b := by simpa using h
theorem or_T {a b : Bool} (h : (a || b) = true) : a = true ∨ b = true := by simpa using h
theorem or_F {a b : Bool} (h : (a || b) = false) : a = false ∧ b = false := by simpa using h
theorem q_lenS_map {C : Cx} {st : St} {x : XA} {sz : Nat} {α : Type} {f : α → List D} {xs : List α} (hx : evA st.sl x = some (.d (.sl sz (xs.map f)))) : QStep C st (.lenS x) (int xs.length) :=
  q_as (q_lenS hx) (by rw [List.length_map])
theorem noisl_map {α : Type} {f : α → List D} {sz : Nat} {xs : List α} (hf : ∀ x, (f x).all scD = true) : noIslO (.rows sz (xs.map f)) := by
  intro r hr x hx
  obtain ⟨y, _, rfl⟩ := List.mem_map.1 hr
  exact List.all_eq_true.1 (hf y) x hx
def noislL : List (Nat × OB) → Prop
  | [] => True
  | (_, ob) :: r => noIslO ob ∧ noislL r
theorem noisl_of : ∀ {h : List (Nat × OB)}, noislL h → ∀ e ob, get h e = some ob → noIslO ob
  | (k, o) :: r, hh, e, ob, h => by
    rw [get_cons] at h
    split at h
    · cases h; exact hh.1
    · exact noisl_of hh.2 e ob h

def intRow (n : Int) : List D := [.int .i64 n]
def boolRow (b : Bool) : List D := [.bool b]
def wfInt (n : Int) : Prop := -9223372036854775808 ≤ n ∧ n ≤ 9223372036854775807
def wfStr (s : Str) : Prop := s.length ≤ 9223372036854775807
def wfL {α : Type} (wf : α → Prop) (xs : List α) : Prop := xs.length ≤ 9223372036854775807 ∧ ∀ x ∈ xs, wf x

/-! Sizes. -/
theorem szF_spec (l : Int) (n : Nat) : ((n : Int) ≤ l ∧ szF l n = l - n) ∨ (l < (n : Int) ∧ szF l n = -1) := by
  unfold szF
  split
  · exact .inl ⟨by assumption, rfl⟩
  · exact .inr ⟨by omega, rfl⟩
def sumBy {α : Type} (f : α → Nat) : List α → Nat
  | [] => 0
  | x :: r => f x + sumBy f r
def szL {α : Type} (f : α → Nat) (xs : List α) : Nat := xs.length + sumBy f xs
theorem sumBy_append {α : Type} {f : α → Nat} : ∀ (a b : List α), sumBy f (a ++ b) = sumBy f a + sumBy f b
  | [], b => by simp [sumBy]
  | x :: a, b => by rw [List.cons_append, sumBy, sumBy, sumBy_append a b]; omega
theorem sumBy_take {α : Type} {f : α → Nat} {xs : List α} {k : Nat} (h : k < xs.length) : sumBy f (xs.take (k + 1)) = sumBy f (xs.take k) + f xs[k] := by
  rw [take_succ h, sumBy_append]; simp [sumBy]
theorem sumBy_le {α : Type} {f : α → Nat} (xs : List α) (k : Nat) : sumBy f (xs.take k) ≤ sumBy f xs := by
  conv => rhs; rw [← List.take_append_drop k xs]
  rw [sumBy_append]; omega
theorem sumBy_zero {α : Type} : ∀ (xs : List α), sumBy (fun _ => 0) xs = 0
  | [] => rfl
  | x :: xs => by rw [sumBy, sumBy_zero xs]
theorem szL_len {α : Type} {f : α → Nat} {xs : List α} : xs.length ≤ szL f xs := by unfold szL; omega

/-! Marks. -/
def markL {α : Type} (mk : Nat → α → α) (c : Nat) : Nat → List α → List α
  | _, [] => []
  | k, x :: xs => mk k x :: markL mk c (k + c) xs
theorem markL_len {α : Type} {mk : Nat → α → α} {c : Nat} : ∀ {k : Nat} {xs : List α}, (markL mk c k xs).length = xs.length
  | _, [] => rfl
  | k, x :: xs => by rw [markL, List.length_cons, markL_len, List.length_cons]
theorem markL_get {α : Type} {mk : Nat → α → α} {c : Nat} : ∀ {k : Nat} {xs : List α} {i : Nat} (h : i < xs.length), (markL mk c k xs)[i]? = some (mk (k + c * i) xs[i])
  | k, x :: xs, 0, h => by simp [markL]
  | k, x :: xs, i + 1, h => by
    rw [markL, List.getElem?_cons_succ, markL_get (by simpa using h)]
    simp only [List.getElem_cons_succ, Option.some.injEq]
    rw [Nat.mul_succ]; congr 1; omega
theorem markL_app {α : Type} {mk : Nat → α → α} {c : Nat} : ∀ {k : Nat} {xs ys : List α}, markL mk c k (xs ++ ys) = markL mk c k xs ++ markL mk c (k + c * xs.length) ys
  | k, [], ys => by simp [markL]
  | k, x :: xs, ys => by
    rw [List.cons_append, markL, markL, markL_app, List.cons_append, List.length_cons]
    congr 2
    rw [Nat.mul_succ]; congr 1; omega
section
variable {α : Type} {row : α → List D} {mk : Nat → α → α} {c k0 k : Nat} {xs : List α}
theorem markL_at (h : k < xs.length) : ((markL mk c k0 (xs.take k) ++ xs.drop k).map row)[k]? = some (row xs[k]) := by
  rw [List.getElem?_map, List.getElem?_append_right (by rw [markL_len]; simp; omega), markL_len]
  simp [List.length_take, Nat.min_eq_left (Nat.le_of_lt h), h]
theorem markL_set (h : k < xs.length) : ((markL mk c k0 (xs.take k) ++ xs.drop k).map row).set k (row (mk (k0 + c * k) xs[k])) = (markL mk c k0 (xs.take (k + 1)) ++ xs.drop (k + 1)).map row := by
  have hl : (markL mk c k0 (xs.take k)).length = k := by rw [markL_len, List.length_take]; omega
  rw [← List.map_set, List.set_append_right _ _ (by rw [hl]; exact Nat.le_refl _), hl, Nat.sub_self, List.drop_eq_getElem_cons h, List.set_cons_zero, take_succ h, markL_app, List.append_assoc, List.length_take, Nat.min_eq_left (Nat.le_of_lt h)]
  rfl
theorem markL_full : markL mk c k0 (xs.take xs.length) ++ xs.drop xs.length = markL mk c k0 xs := by
  rw [List.take_length, List.drop_length, List.append_nil]
theorem setAt {q : List D} {rs : List (List D)} (h : k < rs.length) : (rs.set k q)[k]? = some q := by simp [h]
theorem markL_mlen : ((markL mk c k0 (xs.take k) ++ xs.drop k).map row).length = xs.length := by
  rw [List.length_map, List.length_append, markL_len, List.length_take, List.length_drop]; omega
theorem heldAt (h : k < xs.length) : ((markL mk c k0 xs).map row)[k]? = some (row (mk (k0 + c * k) xs[k])) := by
  rw [List.getElem?_map, markL_get h]; rfl
end
theorem set_set' {α : Type} {l : List α} {k : Nat} {a b : α} {l' : List α} (h : l.set k b = l') : (l.set k a).set k b = l' := by rw [List.set_set]; exact h

/-! Rows that are filled. -/
section
variable {α : Type} {row : α → List D} {xs : List α} {k : Nat} {z : List D}
theorem fillAtL (h : k < xs.length) : ((xs.take k).map row ++ List.replicate (xs.length - k) z)[k]? = some z := by
  have hl : ((xs.take k).map row).length = k := by simp; omega
  rw [List.getElem?_append_right (by omega), hl, Nat.sub_self, List.getElem?_replicate, if_pos (by omega)]
theorem fillSetL (h : k < xs.length) : ((xs.take k).map row ++ List.replicate (xs.length - k) z).set k (row xs[k]) = (xs.take (k + 1)).map row ++ List.replicate (xs.length - (k + 1)) z := by
  have hl : ((xs.take k).map row).length = k := by simp; omega
  rw [List.set_append_right _ _ (by omega), hl, Nat.sub_self, show xs.length - k = (xs.length - (k + 1)) + 1 from by omega, List.replicate_succ, List.set_cons_zero, take_succ h, List.map_append, List.append_assoc]
  rfl
end
theorem wk_zz {C : Cx} {sl : List (Nat × AV)} {own : List (Nat × OB)} (t b : Nat) {a : Nat} (h : get sl t = some (.zs a)) : Wk C ⟨sl, own⟩ ⟨(t, .zs b) :: sl, own⟩ :=
  fun _ _ ⟨β, S⟩ => ⟨β, S.slot h (fun v hv => by rw [AR] at hv ⊢; exact hv)⟩
theorem flat_succ {α : Type} {zs : List (List α)} {k : Nat} (h : k < zs.length) : (zs.take (k + 1)).flatten = (zs.take k).flatten ++ zs[k] := by
  rw [take_succ h, List.flatten_append]; simp
theorem flat_le {α : Type} {zs : List (List α)} (k : Nat) : (zs.take k).flatten.length ≤ zs.flatten.length := by
  have : zs.flatten = (zs.take k).flatten ++ (zs.drop k).flatten := by rw [← List.flatten_append, List.take_append_drop]
  rw [this]; simp
theorem eqb_dec {α : Type} [DecidableEq α] (a b : α) : decide (a = b) = eqb a b := by
  by_cases h : a = b
  · rw [decide_eq_true h, eqb_t h]
  · rw [decide_eq_false h, eqb_f h]
theorem eqbL_step {α : Type} {xs ys : List α} {k : Nat} (hx : k < xs.length) (hy : k < ys.length) (h : xs.take k = ys.take k) (he : eqb xs[k] ys[k] = true) : xs.take (k + 1) = ys.take (k + 1) :=
  take_step hx hy h (eqb_iff.1 he)
theorem eqbL_no {α : Type} {xs ys : List α} {k : Nat} (hx : k < xs.length) (hy : k < ys.length) (he : eqb xs[k] ys[k] = false) : eqb xs ys = false := by
  refine eqb_f fun h => ?_
  subst h
  rw [eqb_rfl] at he; cases he
theorem bif_not (n : Bool) (b : Bool) : (bif n then !b else b) = (bif n then !b else b) := rfl
end Go.AM
namespace Go.AM
mutual
theorem plain_ref : ∀ (x : AV), plain x = true → refsIn [] x = true
  | .d _, _ => rfl
  | .zs _, _ => rfl
  | .raw _, _ => rfl
  | .agg cs, h => by rw [plain] at h; rw [refsIn]; exact plain_refs cs h
  | .fn _ cs, h => by rw [plain] at h; rw [refsIn]; exact plain_refs cs h
  | .ptr _ _, h => by simp [plain] at h
  | .rptr _ _ _ _, h => by simp [plain] at h
  | .osl _ _ _ _, h => by simp [plain] at h
  | .tup _, h => by simp [plain] at h
  | .dead, h => by simp [plain] at h
theorem plain_refs : ∀ (xs : List AV), plainL xs = true → refsInL [] xs = true
  | [], _ => rfl
  | x :: xs, h => by
    rw [plainL, Bool.and_eq_true] at h
    rw [refsInL, Bool.and_eq_true]
    exact ⟨plain_ref x h.1, plain_refs xs h.2⟩
end
theorem refs_map : ∀ (ds : List D), refsInL [] (ds.map AV.d) = true
  | [] => rfl
  | d :: ds => by rw [List.map_cons, refsInL, refs_map ds]; rfl
theorem refs_cons {x : AV} (h : refsIn [] x = true) (ds : List D) : refsInL [] (x :: ds.map AV.d) = true := by rw [refsInL, h, refs_map]; rfl
/-- A function value among the data is called. -/
theorem ax_callvD {C : Cx} {gs : List Gd} {K : St → Prop} {st : St} {d : Option Nat} {x : XA} {f : Nat} {args : List XA} {its : List XI} {vs : List AV} {ds : List D} (hx : evA st.sl x = some (.d (.fn (.func f) ds))) (hb : hasBody C.P f = true) (ha : evL st.sl args = some vs)
    (h : VCall C st f (vs ++ ds.map AV.d) (fun r st' => AXI C false gs its (putR d r st') K)) : AXI C false gs (.callv d x args :: its) st K := by
  refine ax_callv_gen (hv := fun {β w u} hA => ?_) hx hb ha h
  rw [AR, DR] at hA
  obtain ⟨us, h1, h2⟩ := hA
  exact ⟨us, h1, DL_AL h2⟩

theorem hbnd {len n bytes : Nat} (h1 : len ≤ 2097152) (h2 : n ≤ 2097152) (hb : bytes ≤ 1024) : (2 * (len + n) + 256) * bytes ≤ 2 ^ 48 := by
  have h3 : (2 * (len + n) + 256) * bytes ≤ (2 * (2097152 + 2097152) + 256) * 1024 := Nat.mul_le_mul (by omega) hb
  omega
theorem app1 {α : Type} {row : α → List D} {xs : List α} {y : α} {r : List D} (h : r = row y) : (xs.map row).take xs.length ++ ([r].drop 0).take 1 = (xs ++ [y]).map row := by
  subst h; simp [List.take_of_length_le]
/-! Rows that are struck. -/
section
variable {α : Type} {q : α → Bool}
theorem idxOf_some {p : α → Bool} {xs : List α} (h : idxOf p xs 0 ≠ -1) : ∃ i : Nat, idxOf p xs 0 = (i : Int) ∧ ∃ hi : i < xs.length, p xs[i] = true ∧ (∀ j, j < i → ∀ x, xs[j]? = some x → p x = false) := by
  have key : ∀ (xs : List α) (k : Nat), idxOf p xs k = -1 ∨ ∃ i : Nat, idxOf p xs k = ((k + i : Nat) : Int) ∧ ∃ hi : i < xs.length, p xs[i] = true ∧ (∀ j, j < i → ∀ x, xs[j]? = some x → p x = false) := by
    intro xs
    induction xs with
    | nil => intro k; exact .inl rfl
    | cons x xs ih =>
      intro k
      rw [idxOf]
      cases hp : p x with
      | true => exact .inr ⟨0, by simp, by simp, hp, fun j hj => by omega⟩
      | false =>
        rw [if_neg (by simp)]
        rcases ih (k + 1) with h | ⟨i, h1, h2, h3, h4⟩
        · exact .inl h
        · refine .inr ⟨i + 1, by rw [h1]; congr 1; omega, by simpa using h2, by simpa using h3, fun j hj y hy => ?_⟩
          cases j with
          | zero => simp at hy; subst hy; exact hp
          | succ j => exact h4 j (by omega) y (by simpa using hy)
  rcases key xs 0 with h1 | ⟨i, h1, h2⟩
  · exact absurd h1 h
  · exact ⟨i, by rw [h1, Nat.zero_add], h2⟩
theorem idxOf_neg {p : α → Bool} : ∀ {xs : List α} {k : Nat}, idxOf p xs k = -1 → ∀ x ∈ xs, p x = false
  | x :: xs, k, h, y, hy => by
    rw [idxOf] at h
    cases hp : p x with
    | true => rw [hp, if_pos rfl] at h; omega
    | false =>
      rw [hp, if_neg (by simp)] at h
      rcases List.mem_cons.1 hy with rfl | hy
      · exact hp
      · exact idxOf_neg h y hy
theorem filter_all {p : α → Bool} {xs : List α} (h : ∀ x ∈ xs, p x = false) : xs.filter (fun x => !p x) = xs :=
  List.filter_eq_self.2 (fun x hx => by rw [h x hx]; rfl)
/-- As it stands while rows are struck: what is kept, what is left over, what comes. -/
def strk (p : α → Bool) (xs : List α) (j : Nat) (mid : List α) : List α := (xs.take j).filter (fun x => !p x) ++ mid ++ xs.drop j
theorem strk_len {p : α → Bool} {xs : List α} {j : Nat} {mid : List α} (h : ((xs.take j).filter (fun x => !p x)).length + mid.length = j) (hj : j ≤ xs.length) : (strk p xs j mid).length = xs.length := by
  unfold strk; simp only [List.length_append, List.length_drop]; omega
theorem strk_at {p : α → Bool} {xs : List α} {j : Nat} {mid : List α} (h : ((xs.take j).filter (fun x => !p x)).length + mid.length = j) (hj : j < xs.length) : (strk p xs j mid)[j]? = some xs[j] := by
  unfold strk
  rw [List.getElem?_append_right (by simp only [List.length_append]; omega)]
  simp only [List.length_append]
  rw [h, Nat.sub_self]
  simp [hj]
theorem take_filter_keep {p : α → Bool} {xs : List α} {j : Nat} (hj : j < xs.length) (hp : p xs[j] = false) : (xs.take (j + 1)).filter (fun x => !p x) = (xs.take j).filter (fun x => !p x) ++ [xs[j]] := by
  rw [take_succ hj, List.filter_append]; simp [hp]
theorem take_filter_drop {p : α → Bool} {xs : List α} {j : Nat} (hj : j < xs.length) (hp : p xs[j] = true) : (xs.take (j + 1)).filter (fun x => !p x) = (xs.take j).filter (fun x => !p x) := by
  rw [take_succ hj, List.filter_append]; simp [hp]
theorem strk_drop {p : α → Bool} {xs : List α} {j : Nat} {mid : List α} (hj : j < xs.length) (hp : p xs[j] = true) : strk p xs j mid = strk p xs (j + 1) (mid ++ [xs[j]]) := by
  unfold strk
  rw [take_filter_drop hj hp, List.drop_eq_getElem_cons hj]; simp
theorem strk_set {p : α → Bool} {row : α → List D} {xs : List α} {j : Nat} {m : α} {mid : List α} (hj : j < xs.length) (hp : p xs[j] = false) {i : Nat} (hi : i = ((xs.take j).filter (fun x => !p x)).length) :
    ((strk p xs j (m :: mid)).map row).set i (row xs[j]) = (strk p xs (j + 1) (mid ++ [xs[j]])).map row := by
  unfold strk
  rw [take_filter_keep hj hp, ← List.map_set, List.append_assoc, List.set_append_right _ _ (by omega), hi, Nat.sub_self, List.cons_append, List.set_cons_zero, List.drop_eq_getElem_cons hj]
  simp
theorem oslE {e sz s s' l l' : Nat} (hs : s = s') (hl : l = l') : AV.osl e sz s l = .osl e sz s' l' := by rw [hs, hl]
theorem strk_end {p : α → Bool} {row : α → List D} {xs : List α} {mid : List α} {z : List (List D)} {o : Nat} :
    ∃ more, ((strk p xs xs.length mid).map row).take (xs.filter (fun x => !p x)).length ++ z ++ ((strk p xs xs.length mid).map row).drop o = (xs.filter (fun x => !p x)).map row ++ more := by
  refine ⟨z ++ ((strk p xs xs.length mid).map row).drop o, ?_⟩
  have : ((strk p xs xs.length mid).map row).take (xs.filter (fun x => !p x)).length = (xs.filter (fun x => !p x)).map row := by
    unfold strk
    rw [List.take_length, List.append_assoc, List.map_append, List.take_left' (by simp)]
  rw [this, List.append_assoc]
theorem strk_first {p : α → Bool} {xs : List α} {i : Nat} (hi : i < xs.length) (hp : p xs[i] = true) (hb : ∀ j, j < i → ∀ x, xs[j]? = some x → p x = false) : strk p xs (i + 1) [xs[i]] = xs ∧ (xs.take (i + 1)).filter (fun x => !p x) = xs.take i := by
  have h1 : (xs.take i).filter (fun x => !p x) = xs.take i := filter_all (fun x hx => by
    obtain ⟨j, h2, rfl⟩ := List.mem_iff_getElem.1 hx
    have h3 : j < i := by simp at h2; omega
    exact hb j h3 _ (by rw [List.getElem_take]; exact List.getElem?_eq_getElem (by omega)))
  have h2 := take_filter_drop hi hp
  rw [h1] at h2
  refine ⟨?_, h2⟩
  unfold strk
  rw [h2, List.append_assoc, List.singleton_append, ← List.drop_eq_getElem_cons hi, List.take_append_drop]
end
end Go.AM
namespace Go.AM
/-! Readings: what data of a type is. -/
section
variable {P : Program} {t e : TypeId}
def Dec {α : Type} (P : Program) (t : TypeId) (row : α → List D) (wf : α → Prop) : Prop := ∀ {ds : List D}, HasC P t ds → ∃ x, ds = row x ∧ wf x
theorem dec_int (h : P.underlying t = some (.int .i64)) : Dec P t intRow wfInt := fun hc => by
  obtain ⟨n, rfl, hw⟩ := hasC_int h hc
  refine ⟨n, rfl, ?_⟩
  simp [Lit.wf, IntKind.min, IntKind.max, IntKind.signed, IntKind.bits] at hw
  unfold wfInt; omega
theorem dec_byte (h : P.underlying t = some (.int .u8)) : Dec P t byteRow (fun _ => True) := fun hc => by
  obtain ⟨n, rfl, hw⟩ := hasC_int h hc
  simp [Lit.wf, IntKind.min, IntKind.max, IntKind.signed, IntKind.bits] at hw
  refine ⟨byteOf n, ?_, trivial⟩
  unfold byteRow
  rw [byteOf_nat]
  congr 2; omega
theorem dec_bool (h : P.underlying t = some .bool) : Dec P t boolRow (fun _ => True) := fun hc => by
  obtain ⟨n, rfl⟩ := hasC_bool h hc
  exact ⟨n, rfl, trivial⟩
theorem dec_str (h : P.underlying t = some .string) : Dec P t strRow wfStr := fun hc => by
  obtain ⟨n, rfl, hw⟩ := hasC_str h hc
  exact ⟨n, rfl, hw⟩
theorem dec_slice {α : Type} {row : α → List D} {wf : α → Prop} {sz : Nat} (h : P.underlying t = some (.slice e)) (hz : P.cellsOf e = sz) (he : Dec P e row wf) : Dec P t (fun xs => [.sl sz (xs.map row)]) (wfL wf) := fun hc => by
  obtain ⟨rows, rfl, h1, h2⟩ := hasC_slice h hc
  obtain ⟨xs, rfl, h3⟩ := hasRs_map (f := row) (ok := wf) (fun ds hd => he hd) h2
  exact ⟨xs, by rw [hz], by simpa using h1, h3⟩
end
end Go.AM

/- Plain data of the program: its structs. -/
namespace Go.AM
set_option linter.unusedVariables false
structure GLock where
  Tx : Int
  Table : Int
  Row : Int
  Mode : Int
def GLock.av (x : GLock) : AV := .agg [.d (.int .i64 x.Tx), .d (.int .i64 x.Table), .d (.int .i64 x.Row), .d (.int .i64 x.Mode)]
theorem GLock.ext1 {a b : GLock} (h0 : a.Tx = b.Tx) (h1 : a.Table = b.Table) (h2 : a.Row = b.Row) (h3 : a.Mode = b.Mode) : a = b := by cases a; cases b; simp_all
def GLock.row (x : GLock) : List D := [.int .i64 x.Tx, .int .i64 x.Table, .int .i64 x.Row, .int .i64 x.Mode]
def GLock.wf (x : GLock) : Prop := wfInt x.Tx ∧ wfInt x.Table ∧ wfInt x.Row ∧ wfInt x.Mode
def GLock.zero : GLock := ⟨0, 0, 0, 0⟩
theorem GLock.dec {P : Program} {t : TypeId} {fs : Array Field} {f0 f1 f2 f3 : Field} (h : P.underlying t = some (.struct fs)) (hfs : fs.toList = [f0, f1, f2, f3]) (d0 : Dec P f0.type intRow wfInt) (d1 : Dec P f1.type intRow wfInt) (d2 : Dec P f2.type intRow wfInt) (d3 : Dec P f3.type intRow wfInt) : Dec P t GLock.row GLock.wf := fun hc => by
  have g := hasC_struct h hc
  rw [hfs] at g
  obtain ⟨a0, b0, e0, c0, g⟩ := hasFs_cons g
  obtain ⟨x0, r0, w0⟩ := d0 c0
  obtain ⟨a1, b1, e1, c1, g⟩ := hasFs_cons g
  obtain ⟨x1, r1, w1⟩ := d1 c1
  obtain ⟨a2, b2, e2, c2, g⟩ := hasFs_cons g
  obtain ⟨x2, r2, w2⟩ := d2 c2
  obtain ⟨a3, b3, e3, c3, g⟩ := hasFs_cons g
  obtain ⟨x3, r3, w3⟩ := d3 c3
  have z := hasFs_nil g
  exact ⟨⟨x0, x1, x2, x3⟩, by rw [e0, r0, e1, r1, e2, r2, e3, r3, z]; rfl, ⟨w0, w1, w2, w3⟩⟩
def GLock.mk1 (k : Nat) (x : GLock) : GLock := ⟨((k : Nat) : Int), ((k + 1 : Nat) : Int), ((k + 2 : Nat) : Int), ((k + 3 : Nat) : Int)⟩
theorem GLock.eq_iff {a b : GLock} : a = b ↔ (a.Tx = b.Tx ∧ a.Table = b.Table ∧ a.Row = b.Row ∧ a.Mode = b.Mode) := by
  constructor
  · rintro rfl; exact ⟨rfl, rfl, rfl, rfl⟩
  · intro h; cases a; cases b; simp_all
theorem GLock.q_eqs {C : Cx} {st : St} {neg : Bool} {x y : XA} {a b : GLock} (hx : evA st.sl x = some a.av) (hy : evA st.sl y = some b.av) : QStep C st (.eqs neg [0, 0, 0, 0] x y) (bool (bif neg then !eqb a b else eqb a b)) := by
  refine q_as (Go.AM.q_eqs hx hy rfl) ?_
  have e : (decide (a.Tx = b.Tx) && (decide (a.Table = b.Table) && (decide (a.Row = b.Row) && (decide (a.Mode = b.Mode) && true)))) = eqb a b := by
    rw [Bool.eq_iff_iff, eqb_iff, GLock.eq_iff]; simp [Bool.and_eq_true]
  show bool (bif neg then !(decide (a.Tx = b.Tx) && (decide (a.Table = b.Table) && (decide (a.Row = b.Row) && (decide (a.Mode = b.Mode) && true)))) else (decide (a.Tx = b.Tx) && (decide (a.Table = b.Table) && (decide (a.Row = b.Row) && (decide (a.Mode = b.Mode) && true))))) = _
  rw [e]

structure GWait where
  Tx : Int
  For : Int
def GWait.av (x : GWait) : AV := .agg [.d (.int .i64 x.Tx), .d (.int .i64 x.For)]
theorem GWait.ext1 {a b : GWait} (h0 : a.Tx = b.Tx) (h1 : a.For = b.For) : a = b := by cases a; cases b; simp_all
def GWait.row (x : GWait) : List D := [.int .i64 x.Tx, .int .i64 x.For]
def GWait.wf (x : GWait) : Prop := wfInt x.Tx ∧ wfInt x.For
def GWait.zero : GWait := ⟨0, 0⟩
theorem GWait.dec {P : Program} {t : TypeId} {fs : Array Field} {f0 f1 : Field} (h : P.underlying t = some (.struct fs)) (hfs : fs.toList = [f0, f1]) (d0 : Dec P f0.type intRow wfInt) (d1 : Dec P f1.type intRow wfInt) : Dec P t GWait.row GWait.wf := fun hc => by
  have g := hasC_struct h hc
  rw [hfs] at g
  obtain ⟨a0, b0, e0, c0, g⟩ := hasFs_cons g
  obtain ⟨x0, r0, w0⟩ := d0 c0
  obtain ⟨a1, b1, e1, c1, g⟩ := hasFs_cons g
  obtain ⟨x1, r1, w1⟩ := d1 c1
  have z := hasFs_nil g
  exact ⟨⟨x0, x1⟩, by rw [e0, r0, e1, r1, z]; rfl, ⟨w0, w1⟩⟩
def GWait.mk1 (k : Nat) (x : GWait) : GWait := ⟨((k : Nat) : Int), ((k + 1 : Nat) : Int)⟩
theorem GWait.eq_iff {a b : GWait} : a = b ↔ (a.Tx = b.Tx ∧ a.For = b.For) := by
  constructor
  · rintro rfl; exact ⟨rfl, rfl⟩
  · intro h; cases a; cases b; simp_all
theorem GWait.q_eqs {C : Cx} {st : St} {neg : Bool} {x y : XA} {a b : GWait} (hx : evA st.sl x = some a.av) (hy : evA st.sl y = some b.av) : QStep C st (.eqs neg [0, 0] x y) (bool (bif neg then !eqb a b else eqb a b)) := by
  refine q_as (Go.AM.q_eqs hx hy rfl) ?_
  have e : (decide (a.Tx = b.Tx) && (decide (a.For = b.For) && true)) = eqb a b := by
    rw [Bool.eq_iff_iff, eqb_iff, GWait.eq_iff]; simp [Bool.and_eq_true]
  show bool (bif neg then !(decide (a.Tx = b.Tx) && (decide (a.For = b.For) && true)) else (decide (a.Tx = b.Tx) && (decide (a.For = b.For) && true))) = _
  rw [e]

structure GLocks where
  Held : List GLock
  Waits : List GWait
def GLocks.av (x : GLocks) : AV := .agg [.d (.sl 4 (x.Held.map GLock.row)), .d (.sl 2 (x.Waits.map GWait.row))]
theorem GLocks.ext1 {a b : GLocks} (h0 : a.Held = b.Held) (h1 : a.Waits = b.Waits) : a = b := by cases a; cases b; simp_all
def GLocks.row (x : GLocks) : List D := [.sl 4 (x.Held.map GLock.row), .sl 2 (x.Waits.map GWait.row)]
def GLocks.wf (x : GLocks) : Prop := wfL GLock.wf x.Held ∧ wfL GWait.wf x.Waits
def GLocks.sz (x : GLocks) : Nat := szL (fun _ => 0) x.Held + szL (fun _ => 0) x.Waits
def GLocks.zero : GLocks := ⟨[], []⟩
theorem GLocks.dec {P : Program} {t : TypeId} {fs : Array Field} {f0 f1 : Field} (h : P.underlying t = some (.struct fs)) (hfs : fs.toList = [f0, f1]) (d0 : Dec P f0.type (fun xs => [.sl 4 (xs.map GLock.row)]) (wfL GLock.wf)) (d1 : Dec P f1.type (fun xs => [.sl 2 (xs.map GWait.row)]) (wfL GWait.wf)) : Dec P t GLocks.row GLocks.wf := fun hc => by
  have g := hasC_struct h hc
  rw [hfs] at g
  obtain ⟨a0, b0, e0, c0, g⟩ := hasFs_cons g
  obtain ⟨x0, r0, w0⟩ := d0 c0
  obtain ⟨a1, b1, e1, c1, g⟩ := hasFs_cons g
  obtain ⟨x1, r1, w1⟩ := d1 c1
  have z := hasFs_nil g
  exact ⟨⟨x0, x1⟩, by rw [e0, r0, e1, r1, z]; rfl, ⟨w0, w1⟩⟩
abbrev GLocks.avO (e0 e1 : Nat) (x : GLocks) : AV := .agg [.osl e0 4 0 x.Held.length, .osl e1 2 0 x.Waits.length]
abbrev GLocks.hO (e0 e1 : Nat) (x : GLocks) : List (Nat × OB) := [(e0, .rows 4 (x.Held.map GLock.row)), (e1, .rows 2 (x.Waits.map GWait.row))]
def GLocks.mkS (k : Nat) (x : GLocks) : GLocks := ⟨markL GLock.mk1 4 (k) x.Held, markL GWait.mk1 2 (k + 4 * x.Held.length) x.Waits⟩
def GLocks.mkN (k : Nat) (x : GLocks) : Nat := k + 4 * x.Held.length + 2 * x.Waits.length

structure GPending where
  At : Int
  Data : Str
def GPending.av (x : GPending) : AV := .agg [.d (.int .i64 x.At), .d (.str x.Data)]
theorem GPending.ext1 {a b : GPending} (h0 : a.At = b.At) (h1 : a.Data = b.Data) : a = b := by cases a; cases b; simp_all
def GPending.row (x : GPending) : List D := [.int .i64 x.At, .str x.Data]
def GPending.wf (x : GPending) : Prop := wfInt x.At ∧ wfStr x.Data
def GPending.sz (x : GPending) : Nat := x.Data.length
def GPending.zero : GPending := ⟨0, []⟩
theorem GPending.dec {P : Program} {t : TypeId} {fs : Array Field} {f0 f1 : Field} (h : P.underlying t = some (.struct fs)) (hfs : fs.toList = [f0, f1]) (d0 : Dec P f0.type intRow wfInt) (d1 : Dec P f1.type strRow wfStr) : Dec P t GPending.row GPending.wf := fun hc => by
  have g := hasC_struct h hc
  rw [hfs] at g
  obtain ⟨a0, b0, e0, c0, g⟩ := hasFs_cons g
  obtain ⟨x0, r0, w0⟩ := d0 c0
  obtain ⟨a1, b1, e1, c1, g⟩ := hasFs_cons g
  obtain ⟨x1, r1, w1⟩ := d1 c1
  have z := hasFs_nil g
  exact ⟨⟨x0, x1⟩, by rw [e0, r0, e1, r1, z]; rfl, ⟨w0, w1⟩⟩
def GPending.mk1 (k : Nat) (x : GPending) : GPending := ⟨((k : Nat) : Int), mkT (k + 1)⟩
theorem GPending.eq_iff {a b : GPending} : a = b ↔ (a.At = b.At ∧ a.Data = b.Data) := by
  constructor
  · rintro rfl; exact ⟨rfl, rfl⟩
  · intro h; cases a; cases b; simp_all
theorem GPending.q_eqs {C : Cx} {st : St} {neg : Bool} {x y : XA} {a b : GPending} (hx : evA st.sl x = some a.av) (hy : evA st.sl y = some b.av) : QStep C st (.eqs neg [0, 2] x y) (bool (bif neg then !eqb a b else eqb a b)) := by
  refine q_as (Go.AM.q_eqs hx hy rfl) ?_
  have e : (decide (a.At = b.At) && (decide (a.Data = b.Data) && true)) = eqb a b := by
    rw [Bool.eq_iff_iff, eqb_iff, GPending.eq_iff]; simp [Bool.and_eq_true]
  show bool (bif neg then !(decide (a.At = b.At) && (decide (a.Data = b.Data) && true)) else (decide (a.At = b.At) && (decide (a.Data = b.Data) && true))) = _
  rw [e]

structure GDisk where
  Sectors : List Str
  Cache : List GPending
  Armed : Bool
  Keep : List Int
def GDisk.av (x : GDisk) : AV := .agg [.d (.sl 1 (x.Sectors.map strRow)), .d (.sl 2 (x.Cache.map GPending.row)), .d (.bool x.Armed), .d (.sl 1 (x.Keep.map intRow))]
theorem GDisk.ext1 {a b : GDisk} (h0 : a.Sectors = b.Sectors) (h1 : a.Cache = b.Cache) (h2 : a.Armed = b.Armed) (h3 : a.Keep = b.Keep) : a = b := by cases a; cases b; simp_all
def GDisk.row (x : GDisk) : List D := [.sl 1 (x.Sectors.map strRow), .sl 2 (x.Cache.map GPending.row), .bool x.Armed, .sl 1 (x.Keep.map intRow)]
def GDisk.wf (x : GDisk) : Prop := wfL wfStr x.Sectors ∧ wfL GPending.wf x.Cache ∧ (fun _ => True) x.Armed ∧ wfL wfInt x.Keep
def GDisk.sz (x : GDisk) : Nat := szL List.length x.Sectors + szL GPending.sz x.Cache + szL (fun _ => 0) x.Keep
def GDisk.zero : GDisk := ⟨[], [], false, []⟩
theorem GDisk.dec {P : Program} {t : TypeId} {fs : Array Field} {f0 f1 f2 f3 : Field} (h : P.underlying t = some (.struct fs)) (hfs : fs.toList = [f0, f1, f2, f3]) (d0 : Dec P f0.type (fun xs => [.sl 1 (xs.map strRow)]) (wfL wfStr)) (d1 : Dec P f1.type (fun xs => [.sl 2 (xs.map GPending.row)]) (wfL GPending.wf)) (d2 : Dec P f2.type boolRow (fun _ => True)) (d3 : Dec P f3.type (fun xs => [.sl 1 (xs.map intRow)]) (wfL wfInt)) : Dec P t GDisk.row GDisk.wf := fun hc => by
  have g := hasC_struct h hc
  rw [hfs] at g
  obtain ⟨a0, b0, e0, c0, g⟩ := hasFs_cons g
  obtain ⟨x0, r0, w0⟩ := d0 c0
  obtain ⟨a1, b1, e1, c1, g⟩ := hasFs_cons g
  obtain ⟨x1, r1, w1⟩ := d1 c1
  obtain ⟨a2, b2, e2, c2, g⟩ := hasFs_cons g
  obtain ⟨x2, r2, w2⟩ := d2 c2
  obtain ⟨a3, b3, e3, c3, g⟩ := hasFs_cons g
  obtain ⟨x3, r3, w3⟩ := d3 c3
  have z := hasFs_nil g
  exact ⟨⟨x0, x1, x2, x3⟩, by rw [e0, r0, e1, r1, e2, r2, e3, r3, z]; rfl, ⟨w0, w1, w2, w3⟩⟩
abbrev GDisk.avO (e0 e1 e2 : Nat) (x : GDisk) : AV := .agg [.osl e0 1 0 x.Sectors.length, .osl e1 2 0 x.Cache.length, .d (.bool x.Armed), .osl e2 1 0 x.Keep.length]
abbrev GDisk.hO (e0 e1 e2 : Nat) (x : GDisk) : List (Nat × OB) := [(e0, .rows 1 (x.Sectors.map strRow)), (e1, .rows 2 (x.Cache.map GPending.row)), (e2, .rows 1 (x.Keep.map intRow))]
def GDisk.mkS (k : Nat) (x : GDisk) : GDisk := ⟨markL (fun k _ => mkT k) 1 (k) x.Sectors, markL GPending.mk1 2 (k + 1 * x.Sectors.length) x.Cache, x.Armed, markL (fun k _ => (k : Int)) 1 (k + 1 * x.Sectors.length + 2 * x.Cache.length) x.Keep⟩
def GDisk.mkN (k : Nat) (x : GDisk) : Nat := k + 1 * x.Sectors.length + 2 * x.Cache.length + 1 * x.Keep.length

def Page.row (x : Page) : List D := [.int .i64 x.lsn, .sl 1 (x.slots.map strRow)]
def Page.wf (x : Page) : Prop := wfInt x.lsn ∧ wfL wfStr x.slots
def Page.sz (x : Page) : Nat := szL List.length x.slots
theorem Page.dec {P : Program} {t : TypeId} {fs : Array Field} {f0 f1 : Field} (h : P.underlying t = some (.struct fs)) (hfs : fs.toList = [f0, f1]) (d0 : Dec P f0.type intRow wfInt) (d1 : Dec P f1.type (fun xs => [.sl 1 (xs.map strRow)]) (wfL wfStr)) : Dec P t Page.row Page.wf := fun hc => by
  have g := hasC_struct h hc
  rw [hfs] at g
  obtain ⟨a0, b0, e0, c0, g⟩ := hasFs_cons g
  obtain ⟨x0, r0, w0⟩ := d0 c0
  obtain ⟨a1, b1, e1, c1, g⟩ := hasFs_cons g
  obtain ⟨x1, r1, w1⟩ := d1 c1
  have z := hasFs_nil g
  exact ⟨⟨x0, x1⟩, by rw [e0, r0, e1, r1, z]; rfl, ⟨w0, w1⟩⟩
abbrev Page.avO (e0 : Nat) (x : Page) : AV := .agg [.d (.int .i64 x.lsn), .osl e0 1 0 x.slots.length]
abbrev Page.hO (e0 : Nat) (x : Page) : List (Nat × OB) := [(e0, .rows 1 (x.slots.map strRow))]
def Page.mkS (k : Nat) (x : Page) : Page := ⟨x.lsn, markL (fun k _ => mkT k) 1 (k) x.slots⟩
def Page.mkN (k : Nat) (x : Page) : Nat := k + 1 * x.slots.length

structure GValue where
  Kind : Int
  N : Int
  T : Str
def GValue.av (x : GValue) : AV := .agg [.d (.int .i64 x.Kind), .d (.int .i64 x.N), .d (.str x.T)]
theorem GValue.ext1 {a b : GValue} (h0 : a.Kind = b.Kind) (h1 : a.N = b.N) (h2 : a.T = b.T) : a = b := by cases a; cases b; simp_all
def GValue.row (x : GValue) : List D := [.int .i64 x.Kind, .int .i64 x.N, .str x.T]
def GValue.wf (x : GValue) : Prop := wfInt x.Kind ∧ wfInt x.N ∧ wfStr x.T
def GValue.sz (x : GValue) : Nat := x.T.length
def GValue.zero : GValue := ⟨0, 0, []⟩
theorem GValue.dec {P : Program} {t : TypeId} {fs : Array Field} {f0 f1 f2 : Field} (h : P.underlying t = some (.struct fs)) (hfs : fs.toList = [f0, f1, f2]) (d0 : Dec P f0.type intRow wfInt) (d1 : Dec P f1.type intRow wfInt) (d2 : Dec P f2.type strRow wfStr) : Dec P t GValue.row GValue.wf := fun hc => by
  have g := hasC_struct h hc
  rw [hfs] at g
  obtain ⟨a0, b0, e0, c0, g⟩ := hasFs_cons g
  obtain ⟨x0, r0, w0⟩ := d0 c0
  obtain ⟨a1, b1, e1, c1, g⟩ := hasFs_cons g
  obtain ⟨x1, r1, w1⟩ := d1 c1
  obtain ⟨a2, b2, e2, c2, g⟩ := hasFs_cons g
  obtain ⟨x2, r2, w2⟩ := d2 c2
  have z := hasFs_nil g
  exact ⟨⟨x0, x1, x2⟩, by rw [e0, r0, e1, r1, e2, r2, z]; rfl, ⟨w0, w1, w2⟩⟩
def GValue.mk1 (k : Nat) (x : GValue) : GValue := ⟨((k : Nat) : Int), ((k + 1 : Nat) : Int), mkT (k + 2)⟩
theorem GValue.eq_iff {a b : GValue} : a = b ↔ (a.Kind = b.Kind ∧ a.N = b.N ∧ a.T = b.T) := by
  constructor
  · rintro rfl; exact ⟨rfl, rfl, rfl⟩
  · intro h; cases a; cases b; simp_all
theorem GValue.q_eqs {C : Cx} {st : St} {neg : Bool} {x y : XA} {a b : GValue} (hx : evA st.sl x = some a.av) (hy : evA st.sl y = some b.av) : QStep C st (.eqs neg [0, 0, 2] x y) (bool (bif neg then !eqb a b else eqb a b)) := by
  refine q_as (Go.AM.q_eqs hx hy rfl) ?_
  have e : (decide (a.Kind = b.Kind) && (decide (a.N = b.N) && (decide (a.T = b.T) && true))) = eqb a b := by
    rw [Bool.eq_iff_iff, eqb_iff, GValue.eq_iff]; simp [Bool.and_eq_true]
  show bool (bif neg then !(decide (a.Kind = b.Kind) && (decide (a.N = b.N) && (decide (a.T = b.T) && true))) else (decide (a.Kind = b.Kind) && (decide (a.N = b.N) && (decide (a.T = b.T) && true)))) = _
  rw [e]

structure GExprNode where
  Op : Int
  A : Int
  B : Int
  Column : Int
  V : GValue
def GExprNode.av (x : GExprNode) : AV := .agg [.d (.int .i64 x.Op), .d (.int .i64 x.A), .d (.int .i64 x.B), .d (.int .i64 x.Column), .d (.int .i64 x.V.Kind), .d (.int .i64 x.V.N), .d (.str x.V.T)]
theorem GExprNode.ext1 {a b : GExprNode} (h0 : a.Op = b.Op) (h1 : a.A = b.A) (h2 : a.B = b.B) (h3 : a.Column = b.Column) (h4 : a.V = b.V) : a = b := by cases a; cases b; simp_all
def GExprNode.row (x : GExprNode) : List D := [.int .i64 x.Op, .int .i64 x.A, .int .i64 x.B, .int .i64 x.Column, .int .i64 x.V.Kind, .int .i64 x.V.N, .str x.V.T]
def GExprNode.wf (x : GExprNode) : Prop := wfInt x.Op ∧ wfInt x.A ∧ wfInt x.B ∧ wfInt x.Column ∧ GValue.wf x.V
def GExprNode.sz (x : GExprNode) : Nat := GValue.sz x.V
def GExprNode.zero : GExprNode := ⟨0, 0, 0, 0, GValue.zero⟩
theorem GExprNode.dec {P : Program} {t : TypeId} {fs : Array Field} {f0 f1 f2 f3 f4 : Field} (h : P.underlying t = some (.struct fs)) (hfs : fs.toList = [f0, f1, f2, f3, f4]) (d0 : Dec P f0.type intRow wfInt) (d1 : Dec P f1.type intRow wfInt) (d2 : Dec P f2.type intRow wfInt) (d3 : Dec P f3.type intRow wfInt) (d4 : Dec P f4.type GValue.row GValue.wf) : Dec P t GExprNode.row GExprNode.wf := fun hc => by
  have g := hasC_struct h hc
  rw [hfs] at g
  obtain ⟨a0, b0, e0, c0, g⟩ := hasFs_cons g
  obtain ⟨x0, r0, w0⟩ := d0 c0
  obtain ⟨a1, b1, e1, c1, g⟩ := hasFs_cons g
  obtain ⟨x1, r1, w1⟩ := d1 c1
  obtain ⟨a2, b2, e2, c2, g⟩ := hasFs_cons g
  obtain ⟨x2, r2, w2⟩ := d2 c2
  obtain ⟨a3, b3, e3, c3, g⟩ := hasFs_cons g
  obtain ⟨x3, r3, w3⟩ := d3 c3
  obtain ⟨a4, b4, e4, c4, g⟩ := hasFs_cons g
  obtain ⟨x4, r4, w4⟩ := d4 c4
  have z := hasFs_nil g
  exact ⟨⟨x0, x1, x2, x3, x4⟩, by rw [e0, r0, e1, r1, e2, r2, e3, r3, e4, r4, z]; rfl, ⟨w0, w1, w2, w3, w4⟩⟩
def GExprNode.mk1 (k : Nat) (x : GExprNode) : GExprNode := ⟨((k : Nat) : Int), ((k + 1 : Nat) : Int), ((k + 2 : Nat) : Int), ((k + 3 : Nat) : Int), ⟨((k + 4 : Nat) : Int), ((k + 5 : Nat) : Int), mkT (k + 6)⟩⟩
theorem GExprNode.eq_iff {a b : GExprNode} : a = b ↔ (a.Op = b.Op ∧ a.A = b.A ∧ a.B = b.B ∧ a.Column = b.Column ∧ a.V.Kind = b.V.Kind ∧ a.V.N = b.V.N ∧ a.V.T = b.V.T) := by
  constructor
  · rintro rfl; exact ⟨rfl, rfl, rfl, rfl, rfl, rfl, rfl⟩
  · intro h; cases a; cases b; simp_all [GValue.eq_iff]
theorem GExprNode.q_eqs {C : Cx} {st : St} {neg : Bool} {x y : XA} {a b : GExprNode} (hx : evA st.sl x = some a.av) (hy : evA st.sl y = some b.av) : QStep C st (.eqs neg [0, 0, 0, 0, 0, 0, 2] x y) (bool (bif neg then !eqb a b else eqb a b)) := by
  refine q_as (Go.AM.q_eqs hx hy rfl) ?_
  have e : (decide (a.Op = b.Op) && (decide (a.A = b.A) && (decide (a.B = b.B) && (decide (a.Column = b.Column) && (decide (a.V.Kind = b.V.Kind) && (decide (a.V.N = b.V.N) && (decide (a.V.T = b.V.T) && true))))))) = eqb a b := by
    rw [Bool.eq_iff_iff, eqb_iff, GExprNode.eq_iff]; simp [Bool.and_eq_true]
  show bool (bif neg then !(decide (a.Op = b.Op) && (decide (a.A = b.A) && (decide (a.B = b.B) && (decide (a.Column = b.Column) && (decide (a.V.Kind = b.V.Kind) && (decide (a.V.N = b.V.N) && (decide (a.V.T = b.V.T) && true))))))) else (decide (a.Op = b.Op) && (decide (a.A = b.A) && (decide (a.B = b.B) && (decide (a.Column = b.Column) && (decide (a.V.Kind = b.V.Kind) && (decide (a.V.N = b.V.N) && (decide (a.V.T = b.V.T) && true)))))))) = _
  rw [e]

structure GExpr where
  Nodes : List GExprNode
def GExpr.av (x : GExpr) : AV := .agg [.d (.sl 7 (x.Nodes.map GExprNode.row))]
theorem GExpr.ext1 {a b : GExpr} (h0 : a.Nodes = b.Nodes) : a = b := by cases a; cases b; simp_all
def GExpr.row (x : GExpr) : List D := [.sl 7 (x.Nodes.map GExprNode.row)]
def GExpr.wf (x : GExpr) : Prop := wfL GExprNode.wf x.Nodes
def GExpr.sz (x : GExpr) : Nat := szL GExprNode.sz x.Nodes
def GExpr.zero : GExpr := ⟨[]⟩
theorem GExpr.dec {P : Program} {t : TypeId} {fs : Array Field} {f0 : Field} (h : P.underlying t = some (.struct fs)) (hfs : fs.toList = [f0]) (d0 : Dec P f0.type (fun xs => [.sl 7 (xs.map GExprNode.row)]) (wfL GExprNode.wf)) : Dec P t GExpr.row GExpr.wf := fun hc => by
  have g := hasC_struct h hc
  rw [hfs] at g
  obtain ⟨a0, b0, e0, c0, g⟩ := hasFs_cons g
  obtain ⟨x0, r0, w0⟩ := d0 c0
  have z := hasFs_nil g
  exact ⟨⟨x0⟩, by rw [e0, r0, z]; rfl, w0⟩
abbrev GExpr.avO (e0 : Nat) (x : GExpr) : AV := .agg [.osl e0 7 0 x.Nodes.length]
abbrev GExpr.hO (e0 : Nat) (x : GExpr) : List (Nat × OB) := [(e0, .rows 7 (x.Nodes.map GExprNode.row))]
def GExpr.mkS (k : Nat) (x : GExpr) : GExpr := ⟨markL GExprNode.mk1 7 (k) x.Nodes⟩
def GExpr.mkN (k : Nat) (x : GExpr) : Nat := k + 7 * x.Nodes.length

structure GIns where
  Op : Int
  N : Int
  V : GValue
def GIns.av (x : GIns) : AV := .agg [.d (.int .i64 x.Op), .d (.int .i64 x.N), .d (.int .i64 x.V.Kind), .d (.int .i64 x.V.N), .d (.str x.V.T)]
theorem GIns.ext1 {a b : GIns} (h0 : a.Op = b.Op) (h1 : a.N = b.N) (h2 : a.V = b.V) : a = b := by cases a; cases b; simp_all
def GIns.row (x : GIns) : List D := [.int .i64 x.Op, .int .i64 x.N, .int .i64 x.V.Kind, .int .i64 x.V.N, .str x.V.T]
def GIns.wf (x : GIns) : Prop := wfInt x.Op ∧ wfInt x.N ∧ GValue.wf x.V
def GIns.sz (x : GIns) : Nat := GValue.sz x.V
def GIns.zero : GIns := ⟨0, 0, GValue.zero⟩
theorem GIns.dec {P : Program} {t : TypeId} {fs : Array Field} {f0 f1 f2 : Field} (h : P.underlying t = some (.struct fs)) (hfs : fs.toList = [f0, f1, f2]) (d0 : Dec P f0.type intRow wfInt) (d1 : Dec P f1.type intRow wfInt) (d2 : Dec P f2.type GValue.row GValue.wf) : Dec P t GIns.row GIns.wf := fun hc => by
  have g := hasC_struct h hc
  rw [hfs] at g
  obtain ⟨a0, b0, e0, c0, g⟩ := hasFs_cons g
  obtain ⟨x0, r0, w0⟩ := d0 c0
  obtain ⟨a1, b1, e1, c1, g⟩ := hasFs_cons g
  obtain ⟨x1, r1, w1⟩ := d1 c1
  obtain ⟨a2, b2, e2, c2, g⟩ := hasFs_cons g
  obtain ⟨x2, r2, w2⟩ := d2 c2
  have z := hasFs_nil g
  exact ⟨⟨x0, x1, x2⟩, by rw [e0, r0, e1, r1, e2, r2, z]; rfl, ⟨w0, w1, w2⟩⟩
def GIns.mk1 (k : Nat) (x : GIns) : GIns := ⟨((k : Nat) : Int), ((k + 1 : Nat) : Int), ⟨((k + 2 : Nat) : Int), ((k + 3 : Nat) : Int), mkT (k + 4)⟩⟩
theorem GIns.eq_iff {a b : GIns} : a = b ↔ (a.Op = b.Op ∧ a.N = b.N ∧ a.V.Kind = b.V.Kind ∧ a.V.N = b.V.N ∧ a.V.T = b.V.T) := by
  constructor
  · rintro rfl; exact ⟨rfl, rfl, rfl, rfl, rfl⟩
  · intro h; cases a; cases b; simp_all [GValue.eq_iff]
theorem GIns.q_eqs {C : Cx} {st : St} {neg : Bool} {x y : XA} {a b : GIns} (hx : evA st.sl x = some a.av) (hy : evA st.sl y = some b.av) : QStep C st (.eqs neg [0, 0, 0, 0, 2] x y) (bool (bif neg then !eqb a b else eqb a b)) := by
  refine q_as (Go.AM.q_eqs hx hy rfl) ?_
  have e : (decide (a.Op = b.Op) && (decide (a.N = b.N) && (decide (a.V.Kind = b.V.Kind) && (decide (a.V.N = b.V.N) && (decide (a.V.T = b.V.T) && true))))) = eqb a b := by
    rw [Bool.eq_iff_iff, eqb_iff, GIns.eq_iff]; simp [Bool.and_eq_true]
  show bool (bif neg then !(decide (a.Op = b.Op) && (decide (a.N = b.N) && (decide (a.V.Kind = b.V.Kind) && (decide (a.V.N = b.V.N) && (decide (a.V.T = b.V.T) && true))))) else (decide (a.Op = b.Op) && (decide (a.N = b.N) && (decide (a.V.Kind = b.V.Kind) && (decide (a.V.N = b.V.N) && (decide (a.V.T = b.V.T) && true)))))) = _
  rw [e]

structure GRow where
  Id : Int
  N : GValue
  Name : GValue
def GRow.av (x : GRow) : AV := .agg [.d (.int .i64 x.Id), .d (.int .i64 x.N.Kind), .d (.int .i64 x.N.N), .d (.str x.N.T), .d (.int .i64 x.Name.Kind), .d (.int .i64 x.Name.N), .d (.str x.Name.T)]
theorem GRow.ext1 {a b : GRow} (h0 : a.Id = b.Id) (h1 : a.N = b.N) (h2 : a.Name = b.Name) : a = b := by cases a; cases b; simp_all
def GRow.row (x : GRow) : List D := [.int .i64 x.Id, .int .i64 x.N.Kind, .int .i64 x.N.N, .str x.N.T, .int .i64 x.Name.Kind, .int .i64 x.Name.N, .str x.Name.T]
def GRow.wf (x : GRow) : Prop := wfInt x.Id ∧ GValue.wf x.N ∧ GValue.wf x.Name
def GRow.sz (x : GRow) : Nat := GValue.sz x.N + GValue.sz x.Name
def GRow.zero : GRow := ⟨0, GValue.zero, GValue.zero⟩
theorem GRow.dec {P : Program} {t : TypeId} {fs : Array Field} {f0 f1 f2 : Field} (h : P.underlying t = some (.struct fs)) (hfs : fs.toList = [f0, f1, f2]) (d0 : Dec P f0.type intRow wfInt) (d1 : Dec P f1.type GValue.row GValue.wf) (d2 : Dec P f2.type GValue.row GValue.wf) : Dec P t GRow.row GRow.wf := fun hc => by
  have g := hasC_struct h hc
  rw [hfs] at g
  obtain ⟨a0, b0, e0, c0, g⟩ := hasFs_cons g
  obtain ⟨x0, r0, w0⟩ := d0 c0
  obtain ⟨a1, b1, e1, c1, g⟩ := hasFs_cons g
  obtain ⟨x1, r1, w1⟩ := d1 c1
  obtain ⟨a2, b2, e2, c2, g⟩ := hasFs_cons g
  obtain ⟨x2, r2, w2⟩ := d2 c2
  have z := hasFs_nil g
  exact ⟨⟨x0, x1, x2⟩, by rw [e0, r0, e1, r1, e2, r2, z]; rfl, ⟨w0, w1, w2⟩⟩
def GRow.mk1 (k : Nat) (x : GRow) : GRow := ⟨((k : Nat) : Int), ⟨((k + 1 : Nat) : Int), ((k + 2 : Nat) : Int), mkT (k + 3)⟩, ⟨((k + 4 : Nat) : Int), ((k + 5 : Nat) : Int), mkT (k + 6)⟩⟩
theorem GRow.eq_iff {a b : GRow} : a = b ↔ (a.Id = b.Id ∧ a.N.Kind = b.N.Kind ∧ a.N.N = b.N.N ∧ a.N.T = b.N.T ∧ a.Name.Kind = b.Name.Kind ∧ a.Name.N = b.Name.N ∧ a.Name.T = b.Name.T) := by
  constructor
  · rintro rfl; exact ⟨rfl, rfl, rfl, rfl, rfl, rfl, rfl⟩
  · intro h; cases a; cases b; simp_all [GValue.eq_iff, GValue.eq_iff]
theorem GRow.q_eqs {C : Cx} {st : St} {neg : Bool} {x y : XA} {a b : GRow} (hx : evA st.sl x = some a.av) (hy : evA st.sl y = some b.av) : QStep C st (.eqs neg [0, 0, 0, 2, 0, 0, 2] x y) (bool (bif neg then !eqb a b else eqb a b)) := by
  refine q_as (Go.AM.q_eqs hx hy rfl) ?_
  have e : (decide (a.Id = b.Id) && (decide (a.N.Kind = b.N.Kind) && (decide (a.N.N = b.N.N) && (decide (a.N.T = b.N.T) && (decide (a.Name.Kind = b.Name.Kind) && (decide (a.Name.N = b.Name.N) && (decide (a.Name.T = b.Name.T) && true))))))) = eqb a b := by
    rw [Bool.eq_iff_iff, eqb_iff, GRow.eq_iff]; simp [Bool.and_eq_true]
  show bool (bif neg then !(decide (a.Id = b.Id) && (decide (a.N.Kind = b.N.Kind) && (decide (a.N.N = b.N.N) && (decide (a.N.T = b.N.T) && (decide (a.Name.Kind = b.Name.Kind) && (decide (a.Name.N = b.Name.N) && (decide (a.Name.T = b.Name.T) && true))))))) else (decide (a.Id = b.Id) && (decide (a.N.Kind = b.N.Kind) && (decide (a.N.N = b.N.N) && (decide (a.N.T = b.N.T) && (decide (a.Name.Kind = b.Name.Kind) && (decide (a.Name.N = b.Name.N) && (decide (a.Name.T = b.Name.T) && true)))))))) = _
  rw [e]

structure GStmt where
  Kind : Int
  Table : Int
  Row : GRow
  Column : Int
  Set : GExpr
  Where : GExpr
  Order : Int
  Down : Bool
def GStmt.av (x : GStmt) : AV := .agg [.d (.int .i64 x.Kind), .d (.int .i64 x.Table), .d (.int .i64 x.Row.Id), .d (.int .i64 x.Row.N.Kind), .d (.int .i64 x.Row.N.N), .d (.str x.Row.N.T), .d (.int .i64 x.Row.Name.Kind), .d (.int .i64 x.Row.Name.N), .d (.str x.Row.Name.T), .d (.int .i64 x.Column), .d (.sl 7 (x.Set.Nodes.map GExprNode.row)), .d (.sl 7 (x.Where.Nodes.map GExprNode.row)), .d (.int .i64 x.Order), .d (.bool x.Down)]
theorem GStmt.ext1 {a b : GStmt} (h0 : a.Kind = b.Kind) (h1 : a.Table = b.Table) (h2 : a.Row = b.Row) (h3 : a.Column = b.Column) (h4 : a.Set = b.Set) (h5 : a.Where = b.Where) (h6 : a.Order = b.Order) (h7 : a.Down = b.Down) : a = b := by cases a; cases b; simp_all
def GStmt.row (x : GStmt) : List D := [.int .i64 x.Kind, .int .i64 x.Table, .int .i64 x.Row.Id, .int .i64 x.Row.N.Kind, .int .i64 x.Row.N.N, .str x.Row.N.T, .int .i64 x.Row.Name.Kind, .int .i64 x.Row.Name.N, .str x.Row.Name.T, .int .i64 x.Column, .sl 7 (x.Set.Nodes.map GExprNode.row), .sl 7 (x.Where.Nodes.map GExprNode.row), .int .i64 x.Order, .bool x.Down]
def GStmt.wf (x : GStmt) : Prop := wfInt x.Kind ∧ wfInt x.Table ∧ GRow.wf x.Row ∧ wfInt x.Column ∧ GExpr.wf x.Set ∧ GExpr.wf x.Where ∧ wfInt x.Order ∧ (fun _ => True) x.Down
def GStmt.sz (x : GStmt) : Nat := GRow.sz x.Row + GExpr.sz x.Set + GExpr.sz x.Where
def GStmt.zero : GStmt := ⟨0, 0, GRow.zero, 0, GExpr.zero, GExpr.zero, 0, false⟩
theorem GStmt.dec {P : Program} {t : TypeId} {fs : Array Field} {f0 f1 f2 f3 f4 f5 f6 f7 : Field} (h : P.underlying t = some (.struct fs)) (hfs : fs.toList = [f0, f1, f2, f3, f4, f5, f6, f7]) (d0 : Dec P f0.type intRow wfInt) (d1 : Dec P f1.type intRow wfInt) (d2 : Dec P f2.type GRow.row GRow.wf) (d3 : Dec P f3.type intRow wfInt) (d4 : Dec P f4.type GExpr.row GExpr.wf) (d5 : Dec P f5.type GExpr.row GExpr.wf) (d6 : Dec P f6.type intRow wfInt) (d7 : Dec P f7.type boolRow (fun _ => True)) : Dec P t GStmt.row GStmt.wf := fun hc => by
  have g := hasC_struct h hc
  rw [hfs] at g
  obtain ⟨a0, b0, e0, c0, g⟩ := hasFs_cons g
  obtain ⟨x0, r0, w0⟩ := d0 c0
  obtain ⟨a1, b1, e1, c1, g⟩ := hasFs_cons g
  obtain ⟨x1, r1, w1⟩ := d1 c1
  obtain ⟨a2, b2, e2, c2, g⟩ := hasFs_cons g
  obtain ⟨x2, r2, w2⟩ := d2 c2
  obtain ⟨a3, b3, e3, c3, g⟩ := hasFs_cons g
  obtain ⟨x3, r3, w3⟩ := d3 c3
  obtain ⟨a4, b4, e4, c4, g⟩ := hasFs_cons g
  obtain ⟨x4, r4, w4⟩ := d4 c4
  obtain ⟨a5, b5, e5, c5, g⟩ := hasFs_cons g
  obtain ⟨x5, r5, w5⟩ := d5 c5
  obtain ⟨a6, b6, e6, c6, g⟩ := hasFs_cons g
  obtain ⟨x6, r6, w6⟩ := d6 c6
  obtain ⟨a7, b7, e7, c7, g⟩ := hasFs_cons g
  obtain ⟨x7, r7, w7⟩ := d7 c7
  have z := hasFs_nil g
  exact ⟨⟨x0, x1, x2, x3, x4, x5, x6, x7⟩, by rw [e0, r0, e1, r1, e2, r2, e3, r3, e4, r4, e5, r5, e6, r6, e7, r7, z]; rfl, ⟨w0, w1, w2, w3, w4, w5, w6, w7⟩⟩
abbrev GStmt.avO (e0 e1 : Nat) (x : GStmt) : AV := .agg [.d (.int .i64 x.Kind), .d (.int .i64 x.Table), .d (.int .i64 x.Row.Id), .d (.int .i64 x.Row.N.Kind), .d (.int .i64 x.Row.N.N), .d (.str x.Row.N.T), .d (.int .i64 x.Row.Name.Kind), .d (.int .i64 x.Row.Name.N), .d (.str x.Row.Name.T), .d (.int .i64 x.Column), .osl e0 7 0 x.Set.Nodes.length, .osl e1 7 0 x.Where.Nodes.length, .d (.int .i64 x.Order), .d (.bool x.Down)]
abbrev GStmt.hO (e0 e1 : Nat) (x : GStmt) : List (Nat × OB) := [(e0, .rows 7 (x.Set.Nodes.map GExprNode.row)), (e1, .rows 7 (x.Where.Nodes.map GExprNode.row))]
def GStmt.mkS (k : Nat) (x : GStmt) : GStmt := ⟨x.Kind, x.Table, ⟨x.Row.Id, ⟨x.Row.N.Kind, x.Row.N.N, x.Row.N.T⟩, ⟨x.Row.Name.Kind, x.Row.Name.N, x.Row.Name.T⟩⟩, x.Column, ⟨markL GExprNode.mk1 7 (k) x.Set.Nodes⟩, ⟨markL GExprNode.mk1 7 (k + 7 * x.Set.Nodes.length) x.Where.Nodes⟩, x.Order, x.Down⟩
def GStmt.mkN (k : Nat) (x : GStmt) : Nat := k + 7 * x.Set.Nodes.length + 7 * x.Where.Nodes.length

structure GAnswer where
  Rows : List GRow
  Count : Int
def GAnswer.av (x : GAnswer) : AV := .agg [.d (.sl 7 (x.Rows.map GRow.row)), .d (.int .i64 x.Count)]
theorem GAnswer.ext1 {a b : GAnswer} (h0 : a.Rows = b.Rows) (h1 : a.Count = b.Count) : a = b := by cases a; cases b; simp_all
def GAnswer.row (x : GAnswer) : List D := [.sl 7 (x.Rows.map GRow.row), .int .i64 x.Count]
def GAnswer.wf (x : GAnswer) : Prop := wfL GRow.wf x.Rows ∧ wfInt x.Count
def GAnswer.sz (x : GAnswer) : Nat := szL GRow.sz x.Rows
def GAnswer.zero : GAnswer := ⟨[], 0⟩
theorem GAnswer.dec {P : Program} {t : TypeId} {fs : Array Field} {f0 f1 : Field} (h : P.underlying t = some (.struct fs)) (hfs : fs.toList = [f0, f1]) (d0 : Dec P f0.type (fun xs => [.sl 7 (xs.map GRow.row)]) (wfL GRow.wf)) (d1 : Dec P f1.type intRow wfInt) : Dec P t GAnswer.row GAnswer.wf := fun hc => by
  have g := hasC_struct h hc
  rw [hfs] at g
  obtain ⟨a0, b0, e0, c0, g⟩ := hasFs_cons g
  obtain ⟨x0, r0, w0⟩ := d0 c0
  obtain ⟨a1, b1, e1, c1, g⟩ := hasFs_cons g
  obtain ⟨x1, r1, w1⟩ := d1 c1
  have z := hasFs_nil g
  exact ⟨⟨x0, x1⟩, by rw [e0, r0, e1, r1, z]; rfl, ⟨w0, w1⟩⟩
abbrev GAnswer.avO (e0 : Nat) (x : GAnswer) : AV := .agg [.osl e0 7 0 x.Rows.length, .d (.int .i64 x.Count)]
abbrev GAnswer.hO (e0 : Nat) (x : GAnswer) : List (Nat × OB) := [(e0, .rows 7 (x.Rows.map GRow.row))]
def GAnswer.mkS (k : Nat) (x : GAnswer) : GAnswer := ⟨markL GRow.mk1 7 (k) x.Rows, x.Count⟩
def GAnswer.mkN (k : Nat) (x : GAnswer) : Nat := k + 7 * x.Rows.length

structure GChange where
  Session : Int
  Table : Int
  Row : GRow
  Gone : Bool
def GChange.av (x : GChange) : AV := .agg [.d (.int .i64 x.Session), .d (.int .i64 x.Table), .d (.int .i64 x.Row.Id), .d (.int .i64 x.Row.N.Kind), .d (.int .i64 x.Row.N.N), .d (.str x.Row.N.T), .d (.int .i64 x.Row.Name.Kind), .d (.int .i64 x.Row.Name.N), .d (.str x.Row.Name.T), .d (.bool x.Gone)]
theorem GChange.ext1 {a b : GChange} (h0 : a.Session = b.Session) (h1 : a.Table = b.Table) (h2 : a.Row = b.Row) (h3 : a.Gone = b.Gone) : a = b := by cases a; cases b; simp_all
def GChange.row (x : GChange) : List D := [.int .i64 x.Session, .int .i64 x.Table, .int .i64 x.Row.Id, .int .i64 x.Row.N.Kind, .int .i64 x.Row.N.N, .str x.Row.N.T, .int .i64 x.Row.Name.Kind, .int .i64 x.Row.Name.N, .str x.Row.Name.T, .bool x.Gone]
def GChange.wf (x : GChange) : Prop := wfInt x.Session ∧ wfInt x.Table ∧ GRow.wf x.Row ∧ (fun _ => True) x.Gone
def GChange.sz (x : GChange) : Nat := GRow.sz x.Row
def GChange.zero : GChange := ⟨0, 0, GRow.zero, false⟩
theorem GChange.dec {P : Program} {t : TypeId} {fs : Array Field} {f0 f1 f2 f3 : Field} (h : P.underlying t = some (.struct fs)) (hfs : fs.toList = [f0, f1, f2, f3]) (d0 : Dec P f0.type intRow wfInt) (d1 : Dec P f1.type intRow wfInt) (d2 : Dec P f2.type GRow.row GRow.wf) (d3 : Dec P f3.type boolRow (fun _ => True)) : Dec P t GChange.row GChange.wf := fun hc => by
  have g := hasC_struct h hc
  rw [hfs] at g
  obtain ⟨a0, b0, e0, c0, g⟩ := hasFs_cons g
  obtain ⟨x0, r0, w0⟩ := d0 c0
  obtain ⟨a1, b1, e1, c1, g⟩ := hasFs_cons g
  obtain ⟨x1, r1, w1⟩ := d1 c1
  obtain ⟨a2, b2, e2, c2, g⟩ := hasFs_cons g
  obtain ⟨x2, r2, w2⟩ := d2 c2
  obtain ⟨a3, b3, e3, c3, g⟩ := hasFs_cons g
  obtain ⟨x3, r3, w3⟩ := d3 c3
  have z := hasFs_nil g
  exact ⟨⟨x0, x1, x2, x3⟩, by rw [e0, r0, e1, r1, e2, r2, e3, r3, z]; rfl, ⟨w0, w1, w2, w3⟩⟩
def GChange.mk1 (k : Nat) (x : GChange) : GChange := ⟨((k : Nat) : Int), ((k + 1 : Nat) : Int), ⟨((k + 2 : Nat) : Int), ⟨((k + 3 : Nat) : Int), ((k + 4 : Nat) : Int), mkT (k + 5)⟩, ⟨((k + 6 : Nat) : Int), ((k + 7 : Nat) : Int), mkT (k + 8)⟩⟩, (decide (((k + 9 : Nat) : Int) % 3 = 0))⟩
theorem GChange.eq_iff {a b : GChange} : a = b ↔ (a.Session = b.Session ∧ a.Table = b.Table ∧ a.Row.Id = b.Row.Id ∧ a.Row.N.Kind = b.Row.N.Kind ∧ a.Row.N.N = b.Row.N.N ∧ a.Row.N.T = b.Row.N.T ∧ a.Row.Name.Kind = b.Row.Name.Kind ∧ a.Row.Name.N = b.Row.Name.N ∧ a.Row.Name.T = b.Row.Name.T ∧ a.Gone = b.Gone) := by
  constructor
  · rintro rfl; exact ⟨rfl, rfl, rfl, rfl, rfl, rfl, rfl, rfl, rfl, rfl⟩
  · intro h; cases a; cases b; simp_all [GRow.eq_iff]
theorem GChange.q_eqs {C : Cx} {st : St} {neg : Bool} {x y : XA} {a b : GChange} (hx : evA st.sl x = some a.av) (hy : evA st.sl y = some b.av) : QStep C st (.eqs neg [0, 0, 0, 0, 0, 2, 0, 0, 2, 1] x y) (bool (bif neg then !eqb a b else eqb a b)) := by
  refine q_as (Go.AM.q_eqs hx hy rfl) ?_
  have e : (decide (a.Session = b.Session) && (decide (a.Table = b.Table) && (decide (a.Row.Id = b.Row.Id) && (decide (a.Row.N.Kind = b.Row.N.Kind) && (decide (a.Row.N.N = b.Row.N.N) && (decide (a.Row.N.T = b.Row.N.T) && (decide (a.Row.Name.Kind = b.Row.Name.Kind) && (decide (a.Row.Name.N = b.Row.Name.N) && (decide (a.Row.Name.T = b.Row.Name.T) && (decide (a.Gone = b.Gone) && true)))))))))) = eqb a b := by
    rw [Bool.eq_iff_iff, eqb_iff, GChange.eq_iff]; simp [Bool.and_eq_true]
  show bool (bif neg then !(decide (a.Session = b.Session) && (decide (a.Table = b.Table) && (decide (a.Row.Id = b.Row.Id) && (decide (a.Row.N.Kind = b.Row.N.Kind) && (decide (a.Row.N.N = b.Row.N.N) && (decide (a.Row.N.T = b.Row.N.T) && (decide (a.Row.Name.Kind = b.Row.Name.Kind) && (decide (a.Row.Name.N = b.Row.Name.N) && (decide (a.Row.Name.T = b.Row.Name.T) && (decide (a.Gone = b.Gone) && true)))))))))) else (decide (a.Session = b.Session) && (decide (a.Table = b.Table) && (decide (a.Row.Id = b.Row.Id) && (decide (a.Row.N.Kind = b.Row.N.Kind) && (decide (a.Row.N.N = b.Row.N.N) && (decide (a.Row.N.T = b.Row.N.T) && (decide (a.Row.Name.Kind = b.Row.Name.Kind) && (decide (a.Row.Name.N = b.Row.Name.N) && (decide (a.Row.Name.T = b.Row.Name.T) && (decide (a.Gone = b.Gone) && true))))))))))) = _
  rw [e]

end Go.AM

/- Plain laws: sources of choices. -/
namespace Go.AM
structure Src where
  code : Str
  pos : Int
  seed : Int
abbrev Src.box (s : Src) : OB := .box [.d (.sl 1 (s.code.map byteRow)), int s.pos, int s.seed]
abbrev Src.h (e : Nat) (s : Src) : List (Nat × OB) := [(e, s.box)]
structure Src.ok (s : Src) (n : Nat) : Prop where
  pos : 0 ≤ s.pos ∧ s.pos + n ≤ 1000000000
  seed : 0 ≤ s.seed ∧ s.seed < 2147483648
  len : s.code.length ≤ 1048576
theorem Src.ok.mono {s : Src} {n m : Nat} (h : s.ok n) (hm : m ≤ n) : s.ok m := ⟨by have := h.pos; omega, h.seed, h.len⟩
def srcOf (code : Str) : Src := ⟨code, 0, (code.length : Int) % 1000⟩
theorem srcOf_ok {code : Str} (h : code.length ≤ 1048576) : (srcOf code).ok 1000000000 := ⟨by simp [srcOf], by unfold srcOf; dsimp only; omega, h⟩
def byteF (s : Src) : Int × Src :=
  if s.pos + 1 ≤ s.code.length then ((s.code.getD s.pos.toNat 0).toNat, ⟨s.code, s.pos + 1, (s.seed * 31 + (s.code.getD s.pos.toNat 0).toNat + 7) % 2147483648⟩)
  else if 3000 < s.pos + 1 then (0, ⟨s.code, s.pos + 1, s.seed⟩)
  else ((s.seed * 1103515245 + 12345) % 2147483648 / 65536 % 256, ⟨s.code, s.pos + 1, (s.seed * 1103515245 + 12345) % 2147483648⟩)
theorem byteF_1 {s : Src} (h : s.pos + 1 ≤ s.code.length) : byteF s = (((s.code.getD s.pos.toNat 0).toNat : Int), ⟨s.code, s.pos + 1, (s.seed * 31 + (s.code.getD s.pos.toNat 0).toNat + 7) % 2147483648⟩) := by unfold byteF; rw [if_pos h]
theorem byteF_2 {s : Src} (h : ¬ s.pos + 1 ≤ s.code.length) (h1 : 3000 < s.pos + 1) : byteF s = (0, ⟨s.code, s.pos + 1, s.seed⟩) := by unfold byteF; rw [if_neg h, if_pos h1]
theorem byteF_3 {s : Src} (h : ¬ s.pos + 1 ≤ s.code.length) (h1 : ¬ 3000 < s.pos + 1) : byteF s = ((s.seed * 1103515245 + 12345) % 2147483648 / 65536 % 256, ⟨s.code, s.pos + 1, (s.seed * 1103515245 + 12345) % 2147483648⟩) := by unfold byteF; rw [if_neg h, if_neg h1]
theorem byteF_ok {s : Src} {n : Nat} (h : s.ok (n + 1)) : (byteF s).2.ok n ∧ 0 ≤ (byteF s).1 ∧ (byteF s).1 < 256 := by
  have h1 := h.pos
  have h2 := h.seed
  have h3 := h.len
  have h4 := (s.code.getD s.pos.toNat 0).toNat_lt
  unfold byteF
  split
  · exact ⟨⟨by dsimp only; omega, by dsimp only; omega, h3⟩, by dsimp only; omega, by dsimp only; omega⟩
  · split
    · exact ⟨⟨by dsimp only; omega, h2, h3⟩, by dsimp only; omega, by dsimp only; omega⟩
    · exact ⟨⟨by dsimp only; omega, by dsimp only; omega, h3⟩, by dsimp only; omega, by dsimp only; omega⟩
def nextF (s : Src) (n : Int) : Int × Src :=
  if n ≤ 1 then (0, s) else if n ≤ 256 then ((byteF s).1 % n, (byteF s).2)
  else (((byteF s).1 * 65536 + (byteF (byteF s).2).1 * 256 + (byteF (byteF (byteF s).2).2).1) % n, (byteF (byteF (byteF s).2).2).2)
theorem nextF_1 {s : Src} {n : Int} (h : n ≤ 1) : nextF s n = (0, s) := by unfold nextF; rw [if_pos h]
theorem nextF_2 {s : Src} {n : Int} (h : ¬ n ≤ 1) (h1 : n ≤ 256) : nextF s n = ((byteF s).1 % n, (byteF s).2) := by unfold nextF; rw [if_neg h, if_pos h1]
theorem nextF_3 {s : Src} {n : Int} (h : ¬ n ≤ 1) (h1 : ¬ n ≤ 256) : nextF s n = (((byteF s).1 * 65536 + (byteF (byteF s).2).1 * 256 + (byteF (byteF (byteF s).2).2).1) % n, (byteF (byteF (byteF s).2).2).2) := by unfold nextF; rw [if_neg h, if_neg h1]
theorem nextF_ok {s : Src} {n : Int} {k : Nat} (h : s.ok (k + 3)) : (nextF s n).2.ok k ∧ 0 ≤ (nextF s n).1 ∧ (1 ≤ n → (nextF s n).1 < n) := by
  unfold nextF
  split
  · exact ⟨h.mono (by omega), by dsimp only; omega, fun _ => by dsimp only; omega⟩
  · rename_i h1
    split
    · obtain ⟨h2, h3, h4⟩ := byteF_ok (n := k) (h.mono (by omega))
      exact ⟨h2, Int.emod_nonneg _ (by omega), fun _ => Int.emod_lt_of_pos _ (by omega)⟩
    · obtain ⟨h2, h3, h4⟩ := byteF_ok (n := k + 2) h
      obtain ⟨h5, h6, h7⟩ := byteF_ok (n := k + 1) h2
      obtain ⟨h8, h9, h10⟩ := byteF_ok (n := k) h5
      exact ⟨h8, Int.emod_nonneg _ (by omega), fun _ => Int.emod_lt_of_pos _ (by omega)⟩
def chanceF (s : Src) (n : Int) : Bool × Src := (decide ((nextF s n).1 = n - 1), (nextF s n).2)
theorem getD_at {l : Str} {i : Nat} (h : i < l.length) : l.getD i 0 = l[i] := by simp [List.getD, h]
/-- The i-th choice out of n that some bytes make. -/
def atF (more : Str) (i n : Int) : Int :=
  if n ≤ 1 then 0 else if more = [] then i * 7 % n else
  (((more.getD (i % more.length).toNat 0).toNat * 31 + (more.getD ((i + 1) % more.length).toNat 0).toNat : Int) + i / more.length) % n
theorem atF_bounds {more : Str} {i n : Int} (hn : 1 ≤ n) : 0 ≤ atF more i n ∧ atF more i n < n := by
  unfold atF
  split
  · omega
  · split
    · exact ⟨Int.emod_nonneg _ (by omega), Int.emod_lt_of_pos _ (by omega)⟩
    · exact ⟨Int.emod_nonneg _ (by omega), Int.emod_lt_of_pos _ (by omega)⟩
end Go.AM

/- Plain laws: disks, what a crash keeps. -/
namespace Go.AM
def badAt (n : Nat) (p : GPending) : Bool := !inR p.At 0 ((n : Int) - 1) || decide (160 < (p.Data.length : Int))
def long160 (s : Str) : Bool := decide (160 < (s.length : Int))
def long64 (s : Str) : Bool := decide (65536 < (s.length : Int))
def badHead (d : GDisk) : Bool := ((!inR (d.Sectors.length : Int) 1 100 || decide (500 < (d.Cache.length : Int))) || decide (500 < (d.Keep.length : Int))) || (!d.Armed && decide (0 < (d.Keep.length : Int)))
def diskOK (d : GDisk) : Bool := !badHead d && (!d.Sectors.any long160 && !d.Cache.any (badAt d.Sectors.length))
theorem diskOK_head {d : GDisk} (h : diskOK d = true) : d.Sectors.length ≤ 100 ∧ d.Cache.length ≤ 500 ∧ d.Keep.length ≤ 500 := by
  unfold diskOK badHead inR at h
  simp only [Bool.and_eq_true, Bool.not_eq_true', Bool.or_eq_false_iff, decide_eq_false_iff_not, Bool.not_eq_false', decide_eq_true_eq] at h
  omega
theorem diskOK_at {d : GDisk} (h : diskOK d = true) : ∀ p ∈ d.Cache, 0 ≤ p.At ∧ p.At.toNat < d.Sectors.length := fun p hp => by
  unfold diskOK at h
  simp only [Bool.and_eq_true, Bool.not_eq_true'] at h
  have h1 : badAt d.Sectors.length p = false := by
    cases hh : badAt d.Sectors.length p with
    | false => rfl
    | true => exact absurd (List.any_eq_true.2 ⟨p, hp, hh⟩) (by rw [h.2.2]; simp)
  unfold badAt inR at h1
  simp only [Bool.or_eq_false_iff, Bool.not_eq_false', Bool.and_eq_true, decide_eq_true_eq] at h1
  omega
theorem getD_atI {l : List Int} {i : Nat} (h : i < l.length) : l.getD i 0 = l[i] := by simp [List.getD, h]
def putP (S : List Str) (p : GPending) : List Str := S.set p.At.toNat p.Data
def keepAt (keep : List Int) (k : Nat) : Bool := decide ((k : Int) < (keep.length : Int)) && !decide (keep.getD k 0 = 0)
def keptTo (S : List Str) (ps : List GPending) (keep : List Int) : Nat → List Str
  | 0 => S
  | k + 1 => match ps[k]? with
    | none => keptTo S ps keep k
    | some p => bif keepAt keep k then putP (keptTo S ps keep k) p else keptTo S ps keep k
theorem keptTo_len {S : List Str} {ps : List GPending} {keep : List Int} : ∀ {k : Nat}, (keptTo S ps keep k).length = S.length
  | 0 => rfl
  | k + 1 => by
    rw [keptTo]
    split
    · exact keptTo_len
    · cases keepAt keep k
      · exact keptTo_len
      · show (putP _ _).length = _
        unfold putP; rw [List.length_set]; exact keptTo_len
theorem keptTo_t {S : List Str} {ps : List GPending} {keep : List Int} {k : Nat} (hk : k < ps.length) (h : keepAt keep k = true) : keptTo S ps keep (k + 1) = (keptTo S ps keep k).set ps[k].At.toNat ps[k].Data := by
  rw [keptTo, List.getElem?_eq_getElem hk]; simp only [h, cond_true]; rfl
theorem keptTo_f {S : List Str} {ps : List GPending} {keep : List Int} {k : Nat} (hk : k < ps.length) (h : keepAt keep k = false) : keptTo S ps keep (k + 1) = keptTo S ps keep k := by
  rw [keptTo, List.getElem?_eq_getElem hk]; simp only [h, cond_false]
def syncTo (S : List Str) (ps : List GPending) (k : Nat) : List Str := (ps.take k).foldl putP S
theorem syncTo_len {S : List Str} {ps : List GPending} {k : Nat} : (syncTo S ps k).length = S.length := by
  unfold syncTo
  generalize ps.take k = l
  induction l generalizing S with
  | nil => rfl
  | cons p l ih => rw [List.foldl_cons, ih]; unfold putP; rw [List.length_set]
theorem syncTo_succ {S : List Str} {ps : List GPending} {k : Nat} (hk : k < ps.length) : syncTo S ps (k + 1) = (syncTo S ps k).set ps[k].At.toNat ps[k].Data := by
  unfold syncTo; rw [take_succ hk, List.foldl_append]; rfl
def crashD (d : GDisk) (keep : List Int) : GDisk := ⟨keptTo d.Sectors d.Cache keep d.Cache.length, [], false, []⟩
def syncD (d : GDisk) : GDisk × Bool := if d.Armed = true then (crashD d d.Keep, false) else (⟨syncTo d.Sectors d.Cache d.Cache.length, [], d.Armed, d.Keep⟩, true)
theorem syncD_1 {d : GDisk} (h : d.Armed = true) : syncD d = (crashD d d.Keep, false) := by unfold syncD; rw [if_pos h]
theorem syncD_2 {d : GDisk} (h : d.Armed = false) : syncD d = (⟨syncTo d.Sectors d.Cache d.Cache.length, [], d.Armed, d.Keep⟩, true) := by unfold syncD; rw [if_neg (by rw [h]; simp)]
def armF (d : GDisk) (keep : List Int) : GDisk × Int := if 4096 < (keep.length : Int) then (.zero, 2) else if diskOK d = false then (.zero, 1) else if 500 < (keep.length : Int) then (.zero, 6) else (⟨d.Sectors, d.Cache, true, keep⟩, 0)
theorem armF_1 {d : GDisk} {keep : List Int} (h : 4096 < (keep.length : Int)) : armF d keep = (.zero, 2) := by unfold armF; rw [if_pos h]
theorem armF_2 {d : GDisk} {keep : List Int} (h : ¬ 4096 < (keep.length : Int)) (h1 : diskOK d = false) : armF d keep = (.zero, 1) := by unfold armF; rw [if_neg h, if_pos h1]
theorem armF_3 {d : GDisk} {keep : List Int} (h : ¬ 4096 < (keep.length : Int)) (h1 : diskOK d = true) (h2 : 500 < (keep.length : Int)) : armF d keep = (.zero, 6) := by unfold armF; rw [if_neg h, if_neg (by rw [h1]; simp), if_pos h2]
theorem armF_4 {d : GDisk} {keep : List Int} (h : ¬ 4096 < (keep.length : Int)) (h1 : diskOK d = true) (h2 : ¬ 500 < (keep.length : Int)) : armF d keep = (⟨d.Sectors, d.Cache, true, keep⟩, 0) := by unfold armF; rw [if_neg h, if_neg (by rw [h1]; simp), if_neg h2]
def crashF (d : GDisk) (keep : List Int) : GDisk × Int := if 4096 < (keep.length : Int) then (.zero, 2) else if diskOK d = false then (.zero, 1) else (crashD d keep, 0)
theorem crashF_1 {d : GDisk} {keep : List Int} (h : 4096 < (keep.length : Int)) : crashF d keep = (.zero, 2) := by unfold crashF; rw [if_pos h]
theorem crashF_2 {d : GDisk} {keep : List Int} (h : ¬ 4096 < (keep.length : Int)) (h1 : diskOK d = false) : crashF d keep = (.zero, 1) := by unfold crashF; rw [if_neg h, if_pos h1]
theorem crashF_3 {d : GDisk} {keep : List Int} (h : ¬ 4096 < (keep.length : Int)) (h1 : diskOK d = true) : crashF d keep = (crashD d keep, 0) := by unfold crashF; rw [if_neg h, if_neg (by rw [h1]; simp)]
def syncF (d : GDisk) : GDisk × Bool × Int := if diskOK d = false then (.zero, false, 1) else ((syncD d).1, (syncD d).2, 0)
theorem syncF_1 {d : GDisk} (h1 : diskOK d = false) : syncF d = (.zero, false, 1) := by unfold syncF; rw [if_pos h1]
theorem syncF_2 {d : GDisk} (h1 : diskOK d = true) : syncF d = ((syncD d).1, (syncD d).2, 0) := by unfold syncF; rw [if_neg (by rw [h1]; simp)]
def wrD (d : GDisk) (a : Int) (x : Str) : GDisk := ⟨d.Sectors, d.Cache ++ [⟨a, x⟩], d.Armed, d.Keep⟩
def badW (d : GDisk) (a : Int) (x : Str) : Bool := !inR a 0 ((d.Sectors.length : Int) - 1) || decide (160 < (x.length : Int))
def writeF (d : GDisk) (a : Int) (x : Str) : GDisk × Int := if 65536 < (x.length : Int) then (.zero, 2) else if diskOK d = false then (.zero, 1) else if badW d a x = true then (.zero, 4) else if (d.Cache.length : Int) = 500 then (d, 7) else (wrD d a x, 0)
section
variable {d : GDisk} {a : Int} {x : Str}
theorem writeF_1 (h : 65536 < (x.length : Int)) : writeF d a x = (.zero, 2) := by unfold writeF; rw [if_pos h]
theorem writeF_2 (h : ¬ 65536 < (x.length : Int)) (h1 : diskOK d = false) : writeF d a x = (.zero, 1) := by unfold writeF; rw [if_neg h, if_pos h1]
theorem writeF_3 (h : ¬ 65536 < (x.length : Int)) (h1 : diskOK d = true) (h2 : badW d a x = true) : writeF d a x = (.zero, 4) := by unfold writeF; rw [if_neg h, if_neg (by rw [h1]; simp), if_pos h2]
theorem writeF_4 (h : ¬ 65536 < (x.length : Int)) (h1 : diskOK d = true) (h2 : badW d a x = false) (h3 : (d.Cache.length : Int) = 500) : writeF d a x = (d, 7) := by unfold writeF; rw [if_neg h, if_neg (by rw [h1]; simp), if_neg (by rw [h2]; simp), if_pos h3]
theorem writeF_5 (h : ¬ 65536 < (x.length : Int)) (h1 : diskOK d = true) (h2 : badW d a x = false) (h3 : ¬ (d.Cache.length : Int) = 500) : writeF d a x = (wrD d a x, 0) := by unfold writeF; rw [if_neg h, if_neg (by rw [h1]; simp), if_neg (by rw [h2]; simp), if_neg h3]
end
theorem armF_len {d : GDisk} {keep : List Int} : (armF d keep).1.Sectors.length ≤ d.Sectors.length ∧ (armF d keep).1.Cache.length ≤ d.Cache.length ∧ (armF d keep).1.Keep.length ≤ keep.length := by
  unfold armF; split
  · simp [GDisk.zero]
  · split
    · simp [GDisk.zero]
    · split
      · simp [GDisk.zero]
      · simp
theorem crashD_len {d : GDisk} {keep : List Int} : (crashD d keep).Sectors.length = d.Sectors.length := keptTo_len
theorem crashF_len {d : GDisk} {keep : List Int} : (crashF d keep).1.Sectors.length ≤ d.Sectors.length ∧ (crashF d keep).1.Cache.length = 0 ∧ (crashF d keep).1.Keep.length = 0 := by
  unfold crashF; split
  · simp [GDisk.zero]
  · split
    · simp [GDisk.zero]
    · exact ⟨by show (crashD d keep).Sectors.length ≤ _; rw [crashD_len]; exact Nat.le_refl _, rfl, rfl⟩
theorem syncF_len {d : GDisk} : (syncF d).1.Sectors.length ≤ d.Sectors.length ∧ (syncF d).1.Cache.length = 0 ∧ (syncF d).1.Keep.length ≤ d.Keep.length := by
  unfold syncF; split
  · simp [GDisk.zero]
  · show (syncD d).1.Sectors.length ≤ _ ∧ (syncD d).1.Cache.length = 0 ∧ (syncD d).1.Keep.length ≤ _
    unfold syncD; split
    · exact ⟨by show (crashD d _).Sectors.length ≤ _; rw [crashD_len]; exact Nat.le_refl _, rfl, Nat.zero_le _⟩
    · exact ⟨by show (syncTo _ _ _).length ≤ _; rw [syncTo_len]; exact Nat.le_refl _, rfl, Nat.le_refl _⟩
theorem writeF_len {d : GDisk} {a : Int} {x : Str} : (writeF d a x).1.Sectors.length ≤ d.Sectors.length ∧ (writeF d a x).1.Cache.length ≤ d.Cache.length + 1 ∧ (writeF d a x).1.Keep.length ≤ d.Keep.length := by
  unfold writeF; split
  · simp [GDisk.zero]
  · split
    · simp [GDisk.zero]
    · split
      · simp [GDisk.zero]
      · split
        · simp
        · simp [wrD]
abbrev GDisk.pO (e e0 e1 e2 : Nat) (x : GDisk) : List (Nat × OB) := (e, .box [.osl e0 1 0 x.Sectors.length, .osl e1 2 0 x.Cache.length, .d (.bool x.Armed), .osl e2 1 0 x.Keep.length]) :: x.hO e0 e1 e2
end Go.AM

