/- Plain laws about strings, marks, types of the program and what its functions compute; readings of arguments. -/
import Derived.Test.YtljbgclkdfeegaaC
/- Plain data of the program, as Lean sees it: strings, rows of strings, marks. -/
namespace Go.AM

abbrev Str := List UInt8
def strRow (s : Str) : List D := [.str s]
def strs (xs : List Str) : D := .sl 1 (xs.map strRow)

/-- What 'sz..' counts. -/
def szF (left : Int) (n : Nat) : Int := if (n : Int) ≤ left then left - n else -1
def sumL : List Str → Nat
  | [] => 0
  | s :: r => s.length + sumL r
def szStrs (xs : List Str) : Nat := xs.length + sumL xs
theorem sumL_append : ∀ (a b : List Str), sumL (a ++ b) = sumL a + sumL b
  | [], b => by simp [sumL]
  | x :: a, b => by rw [List.cons_append, sumL, sumL, sumL_append a b]; omega
theorem take_succ {α : Type} {xs : List α} {k : Nat} (h : k < xs.length) : xs.take (k + 1) = xs.take k ++ [xs[k]] := by
  rw [List.take_add_one, List.getElem?_eq_getElem h]; rfl
theorem sumL_take {xs : List Str} {k : Nat} (h : k < xs.length) : sumL (xs.take (k + 1)) = sumL (xs.take k) + xs[k].length := by
  rw [take_succ h, sumL_append]; simp [sumL]
theorem sumL_le (xs : List Str) (k : Nat) : sumL (xs.take k) ≤ sumL xs := by
  conv => rhs; rw [← List.take_append_drop k xs]
  rw [sumL_append]; omega
theorem sumL_mem {xs : List Str} {s : Str} (h : s ∈ xs) : s.length ≤ sumL xs := by
  induction xs with
  | nil => cases h
  | cons x r ih =>
    rw [sumL]
    rcases List.mem_cons.1 h with rfl | h
    · omega
    · have := ih h; omega

/-- Lengths that Go has. -/
def wfStrs (xs : List Str) : Prop := xs.length ≤ 9223372036854775807 ∧ ∀ s ∈ xs, s.length ≤ 9223372036854775807

/-! Marks. -/
def digs : Nat → Nat → Str → Str
  | 0, _, out => out
  | f + 1, n, out => if n = 0 then out else digs f (n / 10) (UInt8.ofNat (48 + n % 10) :: out)
def mkT (k : Nat) : Str := if k = 0 then [109, 48] else 109 :: digs 20 k []
def marks (k n : Nat) : List Str := (List.range n).map fun i => mkT (k + i)
theorem marks_length (k n : Nat) : (marks k n).length = n := by simp [marks]
theorem marks_get {k n i : Nat} (h : i < n) : (marks k n)[i]? = some (mkT (k + i)) := by simp [marks, h]

theorem decide_iff {p q : Prop} [Decidable p] [Decidable q] (h : p ↔ q) : decide p = decide q := by
  by_cases hp : p
  · rw [decide_eq_true hp, decide_eq_true (h.1 hp)]
  · rw [decide_eq_false hp, decide_eq_false (fun hq => hp (h.2 hq))]
theorem eq_of_take {α : Type} {xs ys : List α} (hl : xs.length = ys.length) (h : xs.take xs.length = ys.take xs.length) : xs = ys := by
  rw [List.take_length] at h
  rw [h, hl, List.take_length]
theorem take_step {α : Type} {xs ys : List α} {k : Nat} (hx : k < xs.length) (hy : k < ys.length) (h : xs.take k = ys.take k) (he : xs[k] = ys[k]) : xs.take (k + 1) = ys.take (k + 1) := by
  rw [take_succ hx, take_succ hy, h, he]

structure Page where
  lsn : Int
  slots : List Str
def Page.av (p : Page) : AV := .agg [int p.lsn, .d (strs p.slots)]

theorem lend_whole {own : List (Nat × OB)} {e sz len : Nat} {rs : List (List D)} (h : get own e = some (.rows sz rs)) (hl : len = rs.length) : Lend own (.osl e sz 0 len) (.sl sz rs) :=
  .osl h (by omega) (by rw [List.drop_zero, hl, List.take_length])
end Go.AM

/- Plain laws: pages. -/
namespace Go.AM

def inR (n lo hi : Int) : Bool := decide (lo ≤ n) && decide (n ≤ hi)
def Page.zero : Page := ⟨0, []⟩
/-- A page whose slots are own. -/
abbrev pageO (e : Nat) (p : Page) : AV := .agg [int p.lsn, .osl e 1 0 p.slots.length]
abbrev pageH (e : Nat) (p : Page) : List (Nat × OB) := [(e, .rows 1 (p.slots.map strRow))]

def pageOK (p : Page) : Bool := inR p.lsn 0 1000 && decide (p.slots.length = 4) && !p.slots.any (fun s => decide (30 < s.length))
def pageSet (p : Page) (slot : Int) (data : Str) (lsn : Int) : Page × Int :=
  if (65536 : Int) < (data.length : Int) then (.zero, 2) else
  if pageOK p = false then (.zero, 1) else
  if (!inR slot 0 3 || decide ((30 : Int) < (data.length : Int)) || !inR lsn 0 1000) = true then (.zero, 4) else
  (⟨lsn, p.slots.set slot.toNat data⟩, 0)
def idxOf {α : Type} (p : α → Bool) : List α → Nat → Int
  | [], _ => -1
  | x :: xs, k => if p x then k else idxOf p xs (k + 1)
def pageInsert (p : Page) (data : Str) : Page × Int × Int :=
  if (65536 : Int) < (data.length : Int) then (.zero, 0, 2) else
  if pageOK p = false then (.zero, 0, 1) else
  if inR data.length 1 30 = false then (.zero, 0, 4) else
  let k := idxOf (fun s => decide (s = [])) p.slots 0
  if k < 0 then (p, 0, 7) else (⟨p.lsn, p.slots.set k.toNat data⟩, k, 0)

/-- Not found so far. -/
theorem idxOf_step {α : Type} {p : α → Bool} : ∀ {xs : List α} {k j : Nat}, (∀ i, i < k → ∀ x, xs[i]? = some x → p x = false) → idxOf p xs j = idxOf p (xs.drop k) (j + k)
  | xs, 0, j, _ => by simp
  | [], k + 1, j, _ => by simp [idxOf]
  | x :: xs, k + 1, j, h => by
    rw [idxOf, h 0 (by omega) x rfl, List.drop_succ_cons, if_neg (by simp)]
    rw [idxOf_step (k := k) (j := j + 1) (fun i hi y hy => h (i + 1) (by omega) y (by simpa using hy))]
    congr 1; omega
theorem idxOf_hit {α : Type} {p : α → Bool} {xs : List α} {k : Nat} (hk : k < xs.length) (h : ∀ i, i < k → ∀ x, xs[i]? = some x → p x = false) (hp : p xs[k] = true) : idxOf p xs 0 = k := by
  rw [idxOf_step h, List.drop_eq_getElem_cons hk, idxOf, if_pos hp]; simp
theorem idxOf_none {α : Type} {p : α → Bool} {xs : List α} (h : ∀ i, i < xs.length → ∀ x, xs[i]? = some x → p x = false) : idxOf p xs 0 = -1 := by
  rw [idxOf_step h, List.drop_length, idxOf]
theorem before_step {α : Type} {p : α → Bool} {xs : List α} {k : Nat} (hk : k < xs.length) (h : ∀ i, i < k → ∀ x, xs[i]? = some x → p x = false) (hp : p xs[k] = false) : ∀ i, i < k + 1 → ∀ x, xs[i]? = some x → p x = false := by
  intro i hi x hx
  rcases Nat.lt_or_ge i k with h' | h'
  · exact h i h' x hx
  · have : i = k := by omega
    subst this
    rw [List.getElem?_eq_getElem hk] at hx; cases hx; exact hp
theorem any_idxOf {α : Type} {p : α → Bool} : ∀ {xs : List α} {k : Nat}, decide (0 ≤ idxOf p xs k) = xs.any p
  | [], k => by simp [idxOf]
  | x :: xs, k => by
    rw [idxOf, List.any_cons]
    cases hp : p x with
    | true => simp
    | false => rw [if_neg (by simp), any_idxOf, Bool.false_or]
theorem idxOf_lt {α : Type} {p : α → Bool} : ∀ {xs : List α} {k : Nat}, idxOf p xs k < k + xs.length ∧ -1 ≤ idxOf p xs k
  | [], k => by simp [idxOf]; omega
  | x :: xs, k => by
    rw [idxOf]
    split
    · simp; omega
    · have := idxOf_lt (p := p) (xs := xs) (k := k + 1)
      simp only [List.length_cons]
      omega
theorem any_all {α : Type} {p : α → Bool} {xs : List α} (h : ∀ i, i < xs.length → ∀ x, xs[i]? = some x → p x = false) : xs.any p = false := by
  rw [← any_idxOf (k := 0), idxOf_none h]; rfl
theorem any_hit {α : Type} {p : α → Bool} {xs : List α} {k : Nat} (hk : k < xs.length) (hp : p xs[k] = true) : xs.any p = true :=
  List.any_eq_true.2 ⟨_, List.getElem_mem hk, hp⟩
end Go.AM

/- Plain laws that walks of the generated helpers need. -/
namespace Go.AM
theorem strs_len {xs : List Str} : (xs.map strRow).length = xs.length := List.length_map _
theorem digs0 : ∀ {f : Nat} {o : Str}, digs f 0 o = o
  | 0, o => rfl
  | f + 1, o => by rw [digs, if_pos rfl]
theorem byteConv {n : Nat} (h : n < 256) : AV.d (.int .u8 (wr .u8 (n : Int))) = .d (.int .u8 ((UInt8.ofNat n).toNat : Int)) := by
  have : (UInt8.ofNat n).toNat = n := by simp [Nat.mod_eq_of_lt h]
  rw [this]
  unfold wr; simp [IntKind.wrap, IntKind.bits, IntKind.signed]; omega
theorem fillAt {xs : List Str} {k : Nat} {z : List D} (h : k < xs.length) : ((xs.take k).map strRow ++ List.replicate (xs.length - k) z)[k]? = some z := by
  have hl : ((xs.take k).map strRow).length = k := by simp; omega
  rw [List.getElem?_append_right (by omega), hl, Nat.sub_self, List.getElem?_replicate, if_pos (by omega)]
theorem fillSet {xs : List Str} {k : Nat} {z : List D} (h : k < xs.length) : ((xs.take k).map strRow ++ List.replicate (xs.length - k) z).set k (strRow xs[k]) = (xs.take (k + 1)).map strRow ++ List.replicate (xs.length - (k + 1)) z := by
  have hl : ((xs.take k).map strRow).length = k := by simp; omega
  rw [List.set_append_right _ _ (by omega), hl, Nat.sub_self, show xs.length - k = (xs.length - (k + 1)) + 1 from by omega, List.replicate_succ, List.set_cons_zero, take_succ h, List.map_append, List.append_assoc]
  rfl
theorem markAt {xs : List Str} {k k0 : Nat} (h : k < xs.length) : ((marks k0 k ++ xs.drop k).map strRow)[k]? = some (strRow xs[k]) := by
  rw [List.getElem?_map, List.getElem?_append_right (by rw [marks_length]; exact Nat.le_refl _), marks_length]
  simp [h]
theorem marks_succ (k0 k : Nat) : marks k0 (k + 1) = marks k0 k ++ [mkT (k0 + k)] := by
  unfold marks; rw [List.range_succ, List.map_append]; rfl
theorem markSet {xs : List Str} {k k0 : Nat} (h : k < xs.length) : ((marks k0 k ++ xs.drop k).map strRow).set k (strRow (mkT (k0 + k))) = (marks k0 (k + 1) ++ xs.drop (k + 1)).map strRow := by
  rw [← List.map_set, List.set_append_right _ _ (by rw [marks_length]; exact Nat.le_refl _), marks_length, Nat.sub_self, List.drop_eq_getElem_cons h, List.set_cons_zero, marks_succ, List.append_assoc]
  rfl
theorem marksAt {k0 n k : Nat} (h : k < n) : ((marks k0 n).map strRow)[k]? = some (strRow (mkT (k0 + k))) := by
  rw [List.getElem?_map, marks_get h]; rfl

noncomputable def eqb {α : Type} (a b : α) : Bool := @decide (a = b) (Classical.propDecidable _)
theorem eqb_t {α : Type} {a b : α} (h : a = b) : eqb a b = true := by unfold eqb; simp [h]
theorem eqb_f {α : Type} {a b : α} (h : a ≠ b) : eqb a b = false := by unfold eqb; simp [h]
theorem eqb_iff {α : Type} {a b : α} : eqb a b = true ↔ a = b := by unfold eqb; simp
theorem page_ext {p q : Page} (h1 : p.lsn = q.lsn) (h2 : p.slots = q.slots) : p = q := by cases p; cases q; simp_all
theorem pageOK_f1 {p : Page} (h : (bif false then !inR p.lsn 0 1000 && !decide (((p.slots.map strRow).length : Int) = 4) else !inR p.lsn 0 1000 || !decide (((p.slots.map strRow).length : Int) = 4)) = true) : pageOK p = false := by
  simp only [cond_false, Bool.or_eq_true, strs_len] at h
  unfold pageOK
  rcases h with h | h
  · rw [bT h]; rfl
  · rw [decide_eq_false (by have := nT h; omega)]; simp
theorem pageOK_impl {p : Page} : (bif true then (bif true then inR p.lsn 0 1000 && decide ((p.slots.length : Int) = 4) else inR p.lsn 0 1000 || decide ((p.slots.length : Int) = 4)) && !p.slots.any (fun s => decide ((30 : Int) < (s.length : Int)))
    else (bif true then inR p.lsn 0 1000 && decide ((p.slots.length : Int) = 4) else inR p.lsn 0 1000 || decide ((p.slots.length : Int) = 4)) || !p.slots.any (fun s => decide ((30 : Int) < (s.length : Int)))) = pageOK p := by
  simp only [cond_true, pageOK]
  have e1 : decide ((p.slots.length : Int) = 4) = decide (p.slots.length = 4) := decide_iff (by omega)
  have e2 : (fun s : Str => decide ((30 : Int) < (s.length : Int))) = fun s => decide (30 < s.length) := by funext s; exact decide_iff (by omega)
  rw [e1, e2]

theorem inR_nat {n lo hi : Int} (h : inR n lo hi = true) (h0 : 0 ≤ lo) : ∃ k : Nat, n = k ∧ (k : Int) ≤ hi := by
  unfold inR at h
  rw [Bool.and_eq_true] at h
  have h1 := dT h.1
  have h2 := dT h.2
  exact ⟨n.toNat, by omega, by omega⟩
theorem pageOK_len {p : Page} (h : pageOK p = true) : p.slots.length = 4 := by
  unfold pageOK at h
  simp only [Bool.and_eq_true] at h
  exact dT h.1.2
theorem pageInsert_set {p : Page} {data : Str} (h0 : ¬ (65536 : Int) < (data.length : Int)) (h1 : pageOK p = true) (h2 : inR data.length 1 30 = true) (h3 : ¬ idxOf (fun s => decide (s = [])) p.slots 0 < 0) :
    ∃ k : Nat, idxOf (fun s => decide (s = [])) p.slots 0 = (k : Int) ∧ k < p.slots.length ∧ pageInsert p data = (⟨p.lsn, p.slots.set k data⟩, (k : Int), 0) := by
  have h4 := idxOf_lt (p := fun s : Str => decide (s = [])) (xs := p.slots) (k := 0)
  generalize hg : idxOf (fun s : Str => decide (s = [])) p.slots 0 = g at *
  refine ⟨g.toNat, by omega, by omega, ?_⟩
  unfold pageInsert
  rw [if_neg h0, if_neg (by rw [h1]; simp), if_neg (by rw [h2]; simp), hg]
  simp only [if_neg h3]
  rw [show ((g.toNat : Nat) : Int) = g from by omega]
theorem eqb_rfl {α : Type} (a : α) : eqb a a = true := eqb_t rfl
theorem noisl_rows {e : Nat} {xs : List Str} : ∀ e' ob, get [(e, OB.rows 1 (xs.map strRow))] e' = some ob → noIslO ob := by
  intro e' ob h
  rw [get_cons] at h
  split at h
  · cases h
    intro r hr x hx
    obtain ⟨s, _, rfl⟩ := List.mem_map.1 hr
    rw [strRow, List.mem_singleton] at hx
    subst hx; rfl
  · simp [get] at h
theorem noisl_nil : ∀ e ob, get ([] : List (Nat × OB)) e = some ob → noIslO ob := fun e ob h => by simp [get] at h
theorem pageSet_len {p : Page} {slot lsn : Int} {data : Str} : (pageSet p slot data lsn).1.slots.length ≤ p.slots.length := by
  unfold pageSet
  split
  · exact Nat.zero_le _
  · split
    · exact Nat.zero_le _
    · split
      · exact Nat.zero_le _
      · simp
theorem pageInsert_len {p : Page} {data : Str} : (pageInsert p data).1.slots.length ≤ p.slots.length := by
  unfold pageInsert
  split
  · exact Nat.zero_le _
  · split
    · exact Nat.zero_le _
    · split
      · exact Nat.zero_le _
      · dsimp only
        split
        · exact Nat.le_refl _
        · simp
theorem szF_len {left : Int} {n : Nat} (h : ¬ szF left n < 0) : (n : Int) ≤ left := by
  unfold szF at h
  split at h
  · assumption
  · omega
theorem pageSet_set {p : Page} {slot lsn : Int} {data : Str} (h0 : ¬ (65536 : Int) < (data.length : Int)) (h1 : pageOK p = true) (h2 : (!inR slot 0 3 || decide ((30 : Int) < (data.length : Int)) || !inR lsn 0 1000) = false) :
    pageSet p slot data lsn = (⟨lsn, p.slots.set slot.toNat data⟩, 0) ∧ ∃ k : Nat, slot = k ∧ k < p.slots.length := by
  refine ⟨by unfold pageSet; rw [if_neg h0, if_neg (by rw [h1]; simp), if_neg (by rw [h2]; simp)], ?_⟩
  have h3 : inR slot 0 3 = true := by
    cases h : inR slot 0 3 with
    | true => rfl
    | false => rw [h] at h2; simp at h2
  obtain ⟨k, h4, h5⟩ := inR_nat h3 (by omega)
  exact ⟨k, h4, by rw [pageOK_len h1]; omega⟩
end Go.AM

/- Readings of arguments: integers, strings, rows of strings, pages. -/
namespace Go.AM

section
variable {P : Program} {t e : TypeId} {ds : List D}
theorem hasC_int {k : IntKind} (h : P.underlying t = some (.int k)) (hc : HasC P t ds) : ∃ n, ds = [.int k n] ∧ (Lit.int k n).wf = true := by
  cases hc with
  | int n h' hw => rw [h] at h'; cases h'; exact ⟨n, rfl, hw⟩
  | bool b h' => rw [h] at h'; cases h'
  | str s h' hl => rw [h] at h'; cases h'
  | nilp h' => rw [h] at h'; cases h'
  | ptr h' hr => rw [h] at h'; cases h'
  | slice rows h' hl hr => rw [h] at h'; cases h'
  | struct h' hf => rw [h] at h'; cases h'
theorem hasC_bool (h : P.underlying t = some .bool) (hc : HasC P t ds) : ∃ b, ds = [.bool b] := by
  cases hc with
  | bool b h' => exact ⟨b, rfl⟩
  | int n h' hw => rw [h] at h'; cases h'
  | str s h' hl => rw [h] at h'; cases h'
  | nilp h' => rw [h] at h'; cases h'
  | ptr h' hr => rw [h] at h'; cases h'
  | slice rows h' hl hr => rw [h] at h'; cases h'
  | struct h' hf => rw [h] at h'; cases h'
theorem hasC_str (h : P.underlying t = some .string) (hc : HasC P t ds) : ∃ s : Str, ds = [.str s] ∧ s.length ≤ 9223372036854775807 := by
  cases hc with
  | str s h' hl => exact ⟨s, rfl, hl⟩
  | bool b h' => rw [h] at h'; cases h'
  | int n h' hw => rw [h] at h'; cases h'
  | nilp h' => rw [h] at h'; cases h'
  | ptr h' hr => rw [h] at h'; cases h'
  | slice rows h' hl hr => rw [h] at h'; cases h'
  | struct h' hf => rw [h] at h'; cases h'
theorem hasC_slice (h : P.underlying t = some (.slice e)) (hc : HasC P t ds) : ∃ rows, ds = [.sl (P.cellsOf e) rows] ∧ rows.length ≤ 9223372036854775807 ∧ HasRs P e rows := by
  cases hc with
  | slice rows h' hl hr => rw [h] at h'; cases h'; exact ⟨rows, rfl, hl, hr⟩
  | bool b h' => rw [h] at h'; cases h'
  | int n h' hw => rw [h] at h'; cases h'
  | str s h' hl => rw [h] at h'; cases h'
  | nilp h' => rw [h] at h'; cases h'
  | ptr h' hr => rw [h] at h'; cases h'
  | struct h' hf => rw [h] at h'; cases h'
theorem hasC_ptr (h : P.underlying t = some (.pointer e)) (hc : HasC P t ds) : ds = [.nilp] ∨ ∃ r, ds = [.ip r] ∧ HasC P e r := by
  cases hc with
  | nilp h' => exact .inl rfl
  | ptr h' hr => rw [h] at h'; cases h'; exact .inr ⟨_, rfl, hr⟩
  | slice rows h' hl hr => rw [h] at h'; cases h'
  | bool b h' => rw [h] at h'; cases h'
  | int n h' hw => rw [h] at h'; cases h'
  | str s h' hl => rw [h] at h'; cases h'
  | struct h' hf => rw [h] at h'; cases h'
theorem hasC_struct {fs : Array Field} (h : P.underlying t = some (.struct fs)) (hc : HasC P t ds) : HasFs P fs.toList ds := by
  cases hc with
  | struct h' hf => rw [h] at h'; cases h'; exact hf
  | nilp h' => rw [h] at h'; cases h'
  | ptr h' hr => rw [h] at h'; cases h'
  | slice rows h' hl hr => rw [h] at h'; cases h'
  | bool b h' => rw [h] at h'; cases h'
  | int n h' hw => rw [h] at h'; cases h'
  | str s h' hl => rw [h] at h'; cases h'
theorem hasFs_cons {f : Field} {fs : List Field} (h : HasFs P (f :: fs) ds) : ∃ a b, ds = a ++ b ∧ HasC P f.type a ∧ HasFs P fs b := by
  cases h with
  | cons h1 h2 => exact ⟨_, _, rfl, h1, h2⟩
theorem hasFs_nil (h : HasFs P [] ds) : ds = [] := by cases h; rfl
theorem hasRs_map {α : Type} {f : α → List D} {ok : α → Prop} (hf : ∀ ds, HasC P e ds → ∃ x, ds = f x ∧ ok x) : ∀ {rows : List (List D)}, HasRs P e rows → ∃ xs : List α, rows = xs.map f ∧ ∀ x ∈ xs, ok x
  | [], _ => ⟨[], rfl, fun x hx => by cases hx⟩
  | r :: rs, h => by
    cases h with
    | cons h1 h2 =>
      obtain ⟨x, rfl, h3⟩ := hf r h1
      obtain ⟨xs, rfl, h4⟩ := hasRs_map hf h2
      exact ⟨x :: xs, rfl, fun y hy => by
        rcases List.mem_cons.1 hy with rfl | hy
        · exact h3
        · exact h4 y hy⟩
theorem has_strs (h : P.underlying t = some (.slice e)) (he : P.underlying e = some .string) (hz : P.cellsOf e = 1) (hc : HasC P t ds) : ∃ xs : List Str, ds = [strs xs] ∧ wfStrs xs := by
  obtain ⟨rows, rfl, h1, h2⟩ := hasC_slice h hc
  obtain ⟨xs, rfl, h3⟩ := hasRs_map (f := strRow) (ok := fun s : Str => s.length ≤ 9223372036854775807) (fun ds hd => by
    obtain ⟨s, rfl, h4⟩ := hasC_str he hd
    exact ⟨s, rfl, h4⟩) h2
  exact ⟨xs, by rw [hz]; rfl, by simpa using h1, h3⟩
theorem has_page {fs : Array Field} {f0 f1 : Field} (h : P.underlying t = some (.struct fs)) (hfs : fs.toList = [f0, f1]) (h0 : P.underlying f0.type = some (.int .i64)) (h1 : P.underlying f1.type = some (.slice e)) (he : P.underlying e = some .string)
    (hz : P.cellsOf e = 1) (hc : HasC P t ds) : ∃ p : Page, ds = [.int .i64 p.lsn, strs p.slots] ∧ wfStrs p.slots := by
  have h2 := hasC_struct h hc
  rw [hfs] at h2
  obtain ⟨a, b, rfl, h3, h4⟩ := hasFs_cons h2
  obtain ⟨a', b', rfl, h5, h6⟩ := hasFs_cons h4
  obtain ⟨n, rfl, _⟩ := hasC_int h0 h3
  obtain ⟨xs, rfl, hw⟩ := has_strs h1 he hz h5
  have := hasFs_nil h6
  subst this
  exact ⟨⟨n, xs⟩, rfl, hw⟩
end
end Go.AM

/- Plain laws for walks: conditions, lengths, sizes, marks. -/
namespace Go.AM
theorem and_T {a b : Bool} (h : (a && b) = true) : a = true ∧ b = true := by simpa using h
theorem and_F {a b : Bool} (h : (a && b) = false) : a = false ∨ b = false := by cases a <;> cases b <;> simp_all
theorem mem1 {p : Nat → Prop} {n : Nat} (h : p n) : ∀ e ∈ [n], p e := fun e he => by
  rw [List.mem_singleton] at he; subst he; exact h
theorem mem2 {p : Nat → Prop} {n m : Nat} (h : p n) (h2 : p m) : ∀ e ∈ [n, m], p e := fun e he => by
  rcases List.mem_cons.1 he with rfl | he
  · exact h
  · exact mem1 h2 e he
theorem mem3 {p : Nat → Prop} {n m k : Nat} (h : p n) (h2 : p m) (h3 : p k) : ∀ e ∈ [n, m, k], p e := fun e he => by
  rcases List.mem_cons.1 he with rfl | he
  · exact h
  · exact mem2 h2 h3 e he
theorem mem4 {p : Nat → Prop} {n m k l : Nat} (h : p n) (h2 : p m) (h3 : p k) (h4 : p l) : ∀ e ∈ [n, m, k, l], p e := fun e he => by
  rcases List.mem_cons.1 he with rfl | he
  · exact h
  · exact mem3 h2 h3 h4 e he
section
variable {C : Cx} {q : Bool} {gs : List Gd} {K : St → Prop}
theorem ax_and {d j c : Nat} {t y : Bool} {grp : List XI} {s : XA} {its : List XI} {sl : List (Nat × AV)} {own : List (Nat × OB)}
    (hc : get sl c = some (.d (.bool t))) (hfr : frS (dstsL grp) sl = true)
    (hgrp : t = true → AXI C q (⟨j, true, c⟩ :: gs) grp ⟨sl, own⟩ (fun st' => evA st'.sl s = some (.d (.bool y)) ∧ St.le ⟨sl, own⟩ st'))
    (h : AXI C q gs its ⟨(d, .d (.bool (t && y))) :: sl, own⟩ K) : AXI C q gs (.andor d true j c grp s :: its) ⟨sl, own⟩ K := ax_andor hc hfr hgrp h
theorem ax_or {d j c : Nat} {t y : Bool} {grp : List XI} {s : XA} {its : List XI} {sl : List (Nat × AV)} {own : List (Nat × OB)}
    (hc : get sl c = some (.d (.bool t))) (hfr : frS (dstsL grp) sl = true)
    (hgrp : t = false → AXI C q (⟨j, false, c⟩ :: gs) grp ⟨sl, own⟩ (fun st' => evA st'.sl s = some (.d (.bool y)) ∧ St.le ⟨sl, own⟩ st'))
    (h : AXI C q gs its ⟨(d, .d (.bool (t || y))) :: sl, own⟩ K) : AXI C q gs (.andor d false j c grp s :: its) ⟨sl, own⟩ K := ax_andor hc hfr hgrp h
end
theorem bneT {a b : Bool} (h : (a != b) = true) : a ≠ b := by simpa using h
theorem bneF {a b : Bool} (h : (a != b) = false) : a = b := by simpa using h
theorem beqT {a b : Bool} (h : (a == b) = true) : a = b := by simpa using h
theorem beqF {a b : Bool} (h : (a == b) = false) : a ≠ b := by simpa using h
theorem or_T {a b : Bool} (h : (a || b) = true) : a = true ∨ b = true := by simpa using h
theorem or_F {a b : Bool} (h : (a || b) = false) : a = false ∧ b = false := by simpa using h
theorem q_lenS_map {C : Cx} {st : St} {x : XA} {sz : Nat} {α : Type} {f : α → List D} {xs : List α} (hx : evA st.sl x = some (.d (.sl sz (xs.map f)))) : QStep C st (.lenS x) (int xs.length) :=
  q_as (q_lenS hx) (by rw [List.length_map])
theorem noisl_map {α : Type} {f : α → List D} {sz : Nat} {xs : List α} (hf : ∀ x, (f x).all scD = true) : noIslO (.rows sz (xs.map f)) := by
  intro r hr x hx
  obtain ⟨y, _, rfl⟩ := List.mem_map.1 hr
  exact List.all_eq_true.1 (hf y) x hx
def noislL : List (Nat × OB) → Prop
  | [] => True
  | (_, ob) :: r => noIslO ob ∧ noislL r
theorem noisl_of : ∀ {h : List (Nat × OB)}, noislL h → ∀ e ob, get h e = some ob → noIslO ob
  | (k, o) :: r, hh, e, ob, h => by
    rw [get_cons] at h
    split at h
    · cases h; exact hh.1
    · exact noisl_of hh.2 e ob h

def intRow (n : Int) : List D := [.int .i64 n]
def boolRow (b : Bool) : List D := [.bool b]
def wfInt (n : Int) : Prop := -9223372036854775808 ≤ n ∧ n ≤ 9223372036854775807
def wfStr (s : Str) : Prop := s.length ≤ 9223372036854775807
def wfL {α : Type} (wf : α → Prop) (xs : List α) : Prop := xs.length ≤ 9223372036854775807 ∧ ∀ x ∈ xs, wf x

/-! Sizes. -/
theorem szF_spec (l : Int) (n : Nat) : ((n : Int) ≤ l ∧ szF l n = l - n) ∨ (l < (n : Int) ∧ szF l n = -1) := by
  unfold szF
  split
  · exact .inl ⟨by assumption, rfl⟩
  · exact .inr ⟨by omega, rfl⟩
def sumBy {α : Type} (f : α → Nat) : List α → Nat
  | [] => 0
  | x :: r => f x + sumBy f r
def szL {α : Type} (f : α → Nat) (xs : List α) : Nat := xs.length + sumBy f xs
theorem sumBy_append {α : Type} {f : α → Nat} : ∀ (a b : List α), sumBy f (a ++ b) = sumBy f a + sumBy f b
  | [], b => by simp [sumBy]
  | x :: a, b => by rw [List.cons_append, sumBy, sumBy, sumBy_append a b]; omega
theorem sumBy_take {α : Type} {f : α → Nat} {xs : List α} {k : Nat} (h : k < xs.length) : sumBy f (xs.take (k + 1)) = sumBy f (xs.take k) + f xs[k] := by
  rw [take_succ h, sumBy_append]; simp [sumBy]
theorem sumBy_le {α : Type} {f : α → Nat} (xs : List α) (k : Nat) : sumBy f (xs.take k) ≤ sumBy f xs := by
  conv => rhs; rw [← List.take_append_drop k xs]
  rw [sumBy_append]; omega
theorem sumBy_zero {α : Type} : ∀ (xs : List α), sumBy (fun _ => 0) xs = 0
  | [] => rfl
  | x :: xs => by rw [sumBy, sumBy_zero xs]
theorem szL_len {α : Type} {f : α → Nat} {xs : List α} : xs.length ≤ szL f xs := by unfold szL; omega

/-! Marks. -/
def markL {α : Type} (mk : Nat → α → α) (c : Nat) : Nat → List α → List α
  | _, [] => []
  | k, x :: xs => mk k x :: markL mk c (k + c) xs
theorem markL_len {α : Type} {mk : Nat → α → α} {c : Nat} : ∀ {k : Nat} {xs : List α}, (markL mk c k xs).length = xs.length
  | _, [] => rfl
  | k, x :: xs => by rw [markL, List.length_cons, markL_len, List.length_cons]
theorem markL_get {α : Type} {mk : Nat → α → α} {c : Nat} : ∀ {k : Nat} {xs : List α} {i : Nat} (h : i < xs.length), (markL mk c k xs)[i]? = some (mk (k + c * i) xs[i])
  | k, x :: xs, 0, h => by simp [markL]
  | k, x :: xs, i + 1, h => by
    rw [markL, List.getElem?_cons_succ, markL_get (by simpa using h)]
    simp only [List.getElem_cons_succ, Option.some.injEq]
    rw [Nat.mul_succ]; congr 1; omega
theorem markL_app {α : Type} {mk : Nat → α → α} {c : Nat} : ∀ {k : Nat} {xs ys : List α}, markL mk c k (xs ++ ys) = markL mk c k xs ++ markL mk c (k + c * xs.length) ys
  | k, [], ys => by simp [markL]
  | k, x :: xs, ys => by
    rw [List.cons_append, markL, markL, markL_app, List.cons_append, List.length_cons]
    congr 2
    rw [Nat.mul_succ]; congr 1; omega
section
variable {α : Type} {row : α → List D} {mk : Nat → α → α} {c k0 k : Nat} {xs : List α}
theorem markL_at (h : k < xs.length) : ((markL mk c k0 (xs.take k) ++ xs.drop k).map row)[k]? = some (row xs[k]) := by
  rw [List.getElem?_map, List.getElem?_append_right (by rw [markL_len]; simp; omega), markL_len]
  simp [List.length_take, Nat.min_eq_left (Nat.le_of_lt h), h]
theorem markL_set (h : k < xs.length) : ((markL mk c k0 (xs.take k) ++ xs.drop k).map row).set k (row (mk (k0 + c * k) xs[k])) = (markL mk c k0 (xs.take (k + 1)) ++ xs.drop (k + 1)).map row := by
  have hl : (markL mk c k0 (xs.take k)).length = k := by rw [markL_len, List.length_take]; omega
  rw [← List.map_set, List.set_append_right _ _ (by rw [hl]; exact Nat.le_refl _), hl, Nat.sub_self, List.drop_eq_getElem_cons h, List.set_cons_zero, take_succ h, markL_app, List.append_assoc, List.length_take, Nat.min_eq_left (Nat.le_of_lt h)]
  rfl
theorem markL_full : markL mk c k0 (xs.take xs.length) ++ xs.drop xs.length = markL mk c k0 xs := by
  rw [List.take_length, List.drop_length, List.append_nil]
theorem setAt {q : List D} {rs : List (List D)} (h : k < rs.length) : (rs.set k q)[k]? = some q := by simp [h]
theorem markL_mlen : ((markL mk c k0 (xs.take k) ++ xs.drop k).map row).length = xs.length := by
  rw [List.length_map, List.length_append, markL_len, List.length_take, List.length_drop]; omega
theorem heldAt (h : k < xs.length) : ((markL mk c k0 xs).map row)[k]? = some (row (mk (k0 + c * k) xs[k])) := by
  rw [List.getElem?_map, markL_get h]; rfl
end
theorem set_set' {α : Type} {l : List α} {k : Nat} {a b : α} {l' : List α} (h : l.set k b = l') : (l.set k a).set k b = l' := by rw [List.set_set]; exact h

/-! Rows that are filled. -/
section
variable {α : Type} {row : α → List D} {xs : List α} {k : Nat} {z : List D}
theorem fillAtL (h : k < xs.length) : ((xs.take k).map row ++ List.replicate (xs.length - k) z)[k]? = some z := by
  have hl : ((xs.take k).map row).length = k := by simp; omega
  rw [List.getElem?_append_right (by omega), hl, Nat.sub_self, List.getElem?_replicate, if_pos (by omega)]
theorem fillSetL (h : k < xs.length) : ((xs.take k).map row ++ List.replicate (xs.length - k) z).set k (row xs[k]) = (xs.take (k + 1)).map row ++ List.replicate (xs.length - (k + 1)) z := by
  have hl : ((xs.take k).map row).length = k := by simp; omega
  rw [List.set_append_right _ _ (by omega), hl, Nat.sub_self, show xs.length - k = (xs.length - (k + 1)) + 1 from by omega, List.replicate_succ, List.set_cons_zero, take_succ h, List.map_append, List.append_assoc]
  rfl
end
theorem wk_zz {C : Cx} {sl : List (Nat × AV)} {own : List (Nat × OB)} (t b : Nat) {a : Nat} (h : get sl t = some (.zs a)) : Wk C ⟨sl, own⟩ ⟨(t, .zs b) :: sl, own⟩ :=
  fun _ _ ⟨β, S⟩ => ⟨β, S.slot h (fun v hv => by rw [AR] at hv ⊢; exact hv)⟩
theorem flat_succ {α : Type} {zs : List (List α)} {k : Nat} (h : k < zs.length) : (zs.take (k + 1)).flatten = (zs.take k).flatten ++ zs[k] := by
  rw [take_succ h, List.flatten_append]; simp
theorem flat_le {α : Type} {zs : List (List α)} (k : Nat) : (zs.take k).flatten.length ≤ zs.flatten.length := by
  have : zs.flatten = (zs.take k).flatten ++ (zs.drop k).flatten := by rw [← List.flatten_append, List.take_append_drop]
  rw [this]; simp
theorem eqb_dec {α : Type} [DecidableEq α] (a b : α) : decide (a = b) = eqb a b := by
  by_cases h : a = b
  · rw [decide_eq_true h, eqb_t h]
  · rw [decide_eq_false h, eqb_f h]
theorem eqbL_step {α : Type} {xs ys : List α} {k : Nat} (hx : k < xs.length) (hy : k < ys.length) (h : xs.take k = ys.take k) (he : eqb xs[k] ys[k] = true) : xs.take (k + 1) = ys.take (k + 1) :=
  take_step hx hy h (eqb_iff.1 he)
theorem eqbL_no {α : Type} {xs ys : List α} {k : Nat} (hx : k < xs.length) (hy : k < ys.length) (he : eqb xs[k] ys[k] = false) : eqb xs ys = false := by
  refine eqb_f fun h => ?_
  subst h
  rw [eqb_rfl] at he; cases he
theorem bif_not (n : Bool) (b : Bool) : (bif n then !b else b) = (bif n then !b else b) := rfl
end Go.AM
namespace Go.AM
mutual
theorem plain_ref : ∀ (x : AV), plain x = true → refsIn [] x = true
  | .d _, _ => rfl
  | .zs _, _ => rfl
  | .raw _, _ => rfl
  | .agg cs, h => by rw [plain] at h; rw [refsIn]; exact plain_refs cs h
  | .fn _ cs, h => by rw [plain] at h; rw [refsIn]; exact plain_refs cs h
  | .ptr _ _, h => by simp [plain] at h
  | .rptr _ _ _ _, h => by simp [plain] at h
  | .osl _ _ _ _, h => by simp [plain] at h
  | .tup _, h => by simp [plain] at h
  | .dead, h => by simp [plain] at h
theorem plain_refs : ∀ (xs : List AV), plainL xs = true → refsInL [] xs = true
  | [], _ => rfl
  | x :: xs, h => by
    rw [plainL, Bool.and_eq_true] at h
    rw [refsInL, Bool.and_eq_true]
    exact ⟨plain_ref x h.1, plain_refs xs h.2⟩
end
theorem refs_map : ∀ (ds : List D), refsInL [] (ds.map AV.d) = true
  | [] => rfl
  | d :: ds => by rw [List.map_cons, refsInL, refs_map ds]; rfl
theorem refs_cons {x : AV} (h : refsIn [] x = true) (ds : List D) : refsInL [] (x :: ds.map AV.d) = true := by rw [refsInL, h, refs_map]; rfl
/-- A function value among the data is called. -/
theorem ax_callvD {C : Cx} {gs : List Gd} {K : St → Prop} {st : St} {d : Option Nat} {x : XA} {f : Nat} {args : List XA} {its : List XI} {vs : List AV} {ds : List D} (hx : evA st.sl x = some (.d (.fn (.func f) ds))) (hb : hasBody C.P f = true) (ha : evL st.sl args = some vs)
    (h : VCall C st f (vs ++ ds.map AV.d) (fun r st' => AXI C false gs its (putR d r st') K)) : AXI C false gs (.callv d x args :: its) st K := by
  refine ax_callv_gen (hv := fun {β w u} hA => ?_) hx hb ha h
  rw [AR, DR] at hA
  obtain ⟨us, h1, h2⟩ := hA
  exact ⟨us, h1, DL_AL h2⟩

theorem hbnd {len n bytes : Nat} (h1 : len ≤ 2097152) (h2 : n ≤ 2097152) (hb : bytes ≤ 1024) : (2 * (len + n) + 256) * bytes ≤ 2 ^ 48 := by
  have h3 : (2 * (len + n) + 256) * bytes ≤ (2 * (2097152 + 2097152) + 256) * 1024 := Nat.mul_le_mul (by omega) hb
  omega
theorem app1 {α : Type} {row : α → List D} {xs : List α} {y : α} {r : List D} (h : r = row y) : (xs.map row).take xs.length ++ ([r].drop 0).take 1 = (xs ++ [y]).map row := by
  subst h; simp [List.take_of_length_le]
/-! Rows that are struck. -/
section
variable {α : Type} {q : α → Bool}
theorem idxOf_some {p : α → Bool} {xs : List α} (h : idxOf p xs 0 ≠ -1) : ∃ i : Nat, idxOf p xs 0 = (i : Int) ∧ ∃ hi : i < xs.length, p xs[i] = true ∧ (∀ j, j < i → ∀ x, xs[j]? = some x → p x = false) := by
  have key : ∀ (xs : List α) (k : Nat), idxOf p xs k = -1 ∨ ∃ i : Nat, idxOf p xs k = ((k + i : Nat) : Int) ∧ ∃ hi : i < xs.length, p xs[i] = true ∧ (∀ j, j < i → ∀ x, xs[j]? = some x → p x = false) := by
    intro xs
    induction xs with
    | nil => intro k; exact .inl rfl
    | cons x xs ih =>
      intro k
      rw [idxOf]
      cases hp : p x with
      | true => exact .inr ⟨0, by simp, by simp, hp, fun j hj => by omega⟩
      | false =>
        rw [if_neg (by simp)]
        rcases ih (k + 1) with h | ⟨i, h1, h2, h3, h4⟩
        · exact .inl h
        · refine .inr ⟨i + 1, by rw [h1]; congr 1; omega, by simpa using h2, by simpa using h3, fun j hj y hy => ?_⟩
          cases j with
          | zero => simp at hy; subst hy; exact hp
          | succ j => exact h4 j (by omega) y (by simpa using hy)
  rcases key xs 0 with h1 | ⟨i, h1, h2⟩
  · exact absurd h1 h
  · exact ⟨i, by rw [h1, Nat.zero_add], h2⟩
theorem idxOf_neg {p : α → Bool} : ∀ {xs : List α} {k : Nat}, idxOf p xs k = -1 → ∀ x ∈ xs, p x = false
  | x :: xs, k, h, y, hy => by
    rw [idxOf] at h
    cases hp : p x with
    | true => rw [hp, if_pos rfl] at h; omega
    | false =>
      rw [hp, if_neg (by simp)] at h
      rcases List.mem_cons.1 hy with rfl | hy
      · exact hp
      · exact idxOf_neg h y hy
theorem filter_all {p : α → Bool} {xs : List α} (h : ∀ x ∈ xs, p x = false) : xs.filter (fun x => !p x) = xs :=
  List.filter_eq_self.2 (fun x hx => by rw [h x hx]; rfl)
/-- As it stands while rows are struck: what is kept, what is left over, what comes. -/
def strk (p : α → Bool) (xs : List α) (j : Nat) (mid : List α) : List α := (xs.take j).filter (fun x => !p x) ++ mid ++ xs.drop j
theorem strk_len {p : α → Bool} {xs : List α} {j : Nat} {mid : List α} (h : ((xs.take j).filter (fun x => !p x)).length + mid.length = j) (hj : j ≤ xs.length) : (strk p xs j mid).length = xs.length := by
  unfold strk; simp only [List.length_append, List.length_drop]; omega
theorem strk_at {p : α → Bool} {xs : List α} {j : Nat} {mid : List α} (h : ((xs.take j).filter (fun x => !p x)).length + mid.length = j) (hj : j < xs.length) : (strk p xs j mid)[j]? = some xs[j] := by
  unfold strk
  rw [List.getElem?_append_right (by simp only [List.length_append]; omega)]
  simp only [List.length_append]
  rw [h, Nat.sub_self]
  simp [hj]
theorem take_filter_keep {p : α → Bool} {xs : List α} {j : Nat} (hj : j < xs.length) (hp : p xs[j] = false) : (xs.take (j + 1)).filter (fun x => !p x) = (xs.take j).filter (fun x => !p x) ++ [xs[j]] := by
  rw [take_succ hj, List.filter_append]; simp [hp]
theorem take_filter_drop {p : α → Bool} {xs : List α} {j : Nat} (hj : j < xs.length) (hp : p xs[j] = true) : (xs.take (j + 1)).filter (fun x => !p x) = (xs.take j).filter (fun x => !p x) := by
  rw [take_succ hj, List.filter_append]; simp [hp]
theorem strk_drop {p : α → Bool} {xs : List α} {j : Nat} {mid : List α} (hj : j < xs.length) (hp : p xs[j] = true) : strk p xs j mid = strk p xs (j + 1) (mid ++ [xs[j]]) := by
  unfold strk
  rw [take_filter_drop hj hp, List.drop_eq_getElem_cons hj]; simp
theorem strk_set {p : α → Bool} {row : α → List D} {xs : List α} {j : Nat} {m : α} {mid : List α} (hj : j < xs.length) (hp : p xs[j] = false) {i : Nat} (hi : i = ((xs.take j).filter (fun x => !p x)).length) :
    ((strk p xs j (m :: mid)).map row).set i (row xs[j]) = (strk p xs (j + 1) (mid ++ [xs[j]])).map row := by
  unfold strk
  rw [take_filter_keep hj hp, ← List.map_set, List.append_assoc, List.set_append_right _ _ (by omega), hi, Nat.sub_self, List.cons_append, List.set_cons_zero, List.drop_eq_getElem_cons hj]
  simp
theorem oslE {e sz s s' l l' : Nat} (hs : s = s') (hl : l = l') : AV.osl e sz s l = .osl e sz s' l' := by rw [hs, hl]
theorem strk_end {p : α → Bool} {row : α → List D} {xs : List α} {mid : List α} {z : List (List D)} {o : Nat} :
    ∃ more, ((strk p xs xs.length mid).map row).take (xs.filter (fun x => !p x)).length ++ z ++ ((strk p xs xs.length mid).map row).drop o = (xs.filter (fun x => !p x)).map row ++ more := by
  refine ⟨z ++ ((strk p xs xs.length mid).map row).drop o, ?_⟩
  have : ((strk p xs xs.length mid).map row).take (xs.filter (fun x => !p x)).length = (xs.filter (fun x => !p x)).map row := by
    unfold strk
    rw [List.take_length, List.append_assoc, List.map_append, List.take_left' (by simp)]
  rw [this, List.append_assoc]
theorem strk_first {p : α → Bool} {xs : List α} {i : Nat} (hi : i < xs.length) (hp : p xs[i] = true) (hb : ∀ j, j < i → ∀ x, xs[j]? = some x → p x = false) : strk p xs (i + 1) [xs[i]] = xs ∧ (xs.take (i + 1)).filter (fun x => !p x) = xs.take i := by
  have h1 : (xs.take i).filter (fun x => !p x) = xs.take i := filter_all (fun x hx => by
    obtain ⟨j, h2, rfl⟩ := List.mem_iff_getElem.1 hx
    have h3 : j < i := by simp at h2; omega
    exact hb j h3 _ (by rw [List.getElem_take]; exact List.getElem?_eq_getElem (by omega)))
  have h2 := take_filter_drop hi hp
  rw [h1] at h2
  refine ⟨?_, h2⟩
  unfold strk
  rw [h2, List.append_assoc, List.singleton_append, ← List.drop_eq_getElem_cons hi, List.take_append_drop]
end
end Go.AM
namespace Go.AM
/-! Readings: what data of a type is. -/
section
variable {P : Program} {t e : TypeId}
def Dec {α : Type} (P : Program) (t : TypeId) (row : α → List D) (wf : α → Prop) : Prop := ∀ {ds : List D}, HasC P t ds → ∃ x, ds = row x ∧ wf x
theorem dec_int (h : P.underlying t = some (.int .i64)) : Dec P t intRow wfInt := fun hc => by
  obtain ⟨n, rfl, hw⟩ := hasC_int h hc
  refine ⟨n, rfl, ?_⟩
  simp [Lit.wf, IntKind.min, IntKind.max, IntKind.signed, IntKind.bits] at hw
  unfold wfInt; omega
theorem dec_byte (h : P.underlying t = some (.int .u8)) : Dec P t byteRow (fun _ => True) := fun hc => by
  obtain ⟨n, rfl, hw⟩ := hasC_int h hc
  simp [Lit.wf, IntKind.min, IntKind.max, IntKind.signed, IntKind.bits] at hw
  refine ⟨byteOf n, ?_, trivial⟩
  unfold byteRow
  rw [byteOf_nat]
  congr 2; omega
theorem dec_bool (h : P.underlying t = some .bool) : Dec P t boolRow (fun _ => True) := fun hc => by
  obtain ⟨n, rfl⟩ := hasC_bool h hc
  exact ⟨n, rfl, trivial⟩
theorem dec_str (h : P.underlying t = some .string) : Dec P t strRow wfStr := fun hc => by
  obtain ⟨n, rfl, hw⟩ := hasC_str h hc
  exact ⟨n, rfl, hw⟩
theorem dec_slice {α : Type} {row : α → List D} {wf : α → Prop} {sz : Nat} (h : P.underlying t = some (.slice e)) (hz : P.cellsOf e = sz) (he : Dec P e row wf) : Dec P t (fun xs => [.sl sz (xs.map row)]) (wfL wf) := fun hc => by
  obtain ⟨rows, rfl, h1, h2⟩ := hasC_slice h hc
  obtain ⟨xs, rfl, h3⟩ := hasRs_map (f := row) (ok := wf) (fun ds hd => he hd) h2
  exact ⟨xs, by rw [hz], by simpa using h1, h3⟩
end
end Go.AM

/- Plain data of the program: its structs. -/
namespace Go.AM
set_option linter.unusedVariables false
structure GLock where
  Tx : Int
  Table : Int
  Row : Int
  Mode : Int
def GLock.av (x : GLock) : AV := .agg [.d (.int .i64 x.Tx), .d (.int .i64 x.Table), .d (.int .i64 x.Row), .d (.int .i64 x.Mode)]
theorem GLock.ext1 {a b : GLock} (h0 : a.Tx = b.Tx) (h1 : a.Table = b.Table) (h2 : a.Row = b.Row) (h3 : a.Mode = b.Mode) : a = b := by cases a; cases b; simp_all
def GLock.row (x : GLock) : List D := [.int .i64 x.Tx, .int .i64 x.Table, .int .i64 x.Row, .int .i64 x.Mode]
def GLock.wf (x : GLock) : Prop := wfInt x.Tx ∧ wfInt x.Table ∧ wfInt x.Row ∧ wfInt x.Mode
def GLock.zero : GLock := ⟨0, 0, 0, 0⟩
theorem GLock.dec {P : Program} {t : TypeId} {fs : Array Field} {f0 f1 f2 f3 : Field} (h : P.underlying t = some (.struct fs)) (hfs : fs.toList = [f0, f1, f2, f3]) (d0 : Dec P f0.type intRow wfInt) (d1 : Dec P f1.type intRow wfInt) (d2 : Dec P f2.type intRow wfInt) (d3 : Dec P f3.type intRow wfInt) : Dec P t GLock.row GLock.wf := fun hc => by
  have g := hasC_struct h hc
  rw [hfs] at g
  obtain ⟨a0, b0, e0, c0, g⟩ := hasFs_cons g
  obtain ⟨x0, r0, w0⟩ := d0 c0
  obtain ⟨a1, b1, e1, c1, g⟩ := hasFs_cons g
  obtain ⟨x1, r1, w1⟩ := d1 c1
  obtain ⟨a2, b2, e2, c2, g⟩ := hasFs_cons g
  obtain ⟨x2, r2, w2⟩ := d2 c2
  obtain ⟨a3, b3, e3, c3, g⟩ := hasFs_cons g
  obtain ⟨x3, r3, w3⟩ := d3 c3
  have z := hasFs_nil g
  exact ⟨⟨x0, x1, x2, x3⟩, by rw [e0, r0, e1, r1, e2, r2, e3, r3, z]; rfl, ⟨w0, w1, w2, w3⟩⟩
def GLock.mk1 (k : Nat) (x : GLock) : GLock := ⟨((k : Nat) : Int), ((k + 1 : Nat) : Int), ((k + 2 : Nat) : Int), ((k + 3 : Nat) : Int)⟩
theorem GLock.eq_iff {a b : GLock} : a = b ↔ (a.Tx = b.Tx ∧ a.Table = b.Table ∧ a.Row = b.Row ∧ a.Mode = b.Mode) := by
  constructor
  · rintro rfl; exact ⟨rfl, rfl, rfl, rfl⟩
  · intro h; cases a; cases b; simp_all
theorem GLock.q_eqs {C : Cx} {st : St} {neg : Bool} {x y : XA} {a b : GLock} (hx : evA st.sl x = some a.av) (hy : evA st.sl y = some b.av) : QStep C st (.eqs neg [0, 0, 0, 0] x y) (bool (bif neg then !eqb a b else eqb a b)) := by
  refine q_as (Go.AM.q_eqs hx hy rfl) ?_
  have e : (decide (a.Tx = b.Tx) && (decide (a.Table = b.Table) && (decide (a.Row = b.Row) && (decide (a.Mode = b.Mode) && true)))) = eqb a b := by
    rw [Bool.eq_iff_iff, eqb_iff, GLock.eq_iff]; simp [Bool.and_eq_true]
  show bool (bif neg then !(decide (a.Tx = b.Tx) && (decide (a.Table = b.Table) && (decide (a.Row = b.Row) && (decide (a.Mode = b.Mode) && true)))) else (decide (a.Tx = b.Tx) && (decide (a.Table = b.Table) && (decide (a.Row = b.Row) && (decide (a.Mode = b.Mode) && true))))) = _
  rw [e]

structure GWait where
  Tx : Int
  For : Int
def GWait.av (x : GWait) : AV := .agg [.d (.int .i64 x.Tx), .d (.int .i64 x.For)]
theorem GWait.ext1 {a b : GWait} (h0 : a.Tx = b.Tx) (h1 : a.For = b.For) : a = b := by cases a; cases b; simp_all
def GWait.row (x : GWait) : List D := [.int .i64 x.Tx, .int .i64 x.For]
def GWait.wf (x : GWait) : Prop := wfInt x.Tx ∧ wfInt x.For
def GWait.zero : GWait := ⟨0, 0⟩
theorem GWait.dec {P : Program} {t : TypeId} {fs : Array Field} {f0 f1 : Field} (h : P.underlying t = some (.struct fs)) (hfs : fs.toList = [f0, f1]) (d0 : Dec P f0.type intRow wfInt) (d1 : Dec P f1.type intRow wfInt) : Dec P t GWait.row GWait.wf := fun hc => by
  have g := hasC_struct h hc
  rw [hfs] at g
  obtain ⟨a0, b0, e0, c0, g⟩ := hasFs_cons g
  obtain ⟨x0, r0, w0⟩ := d0 c0
  obtain ⟨a1, b1, e1, c1, g⟩ := hasFs_cons g
  obtain ⟨x1, r1, w1⟩ := d1 c1
  have z := hasFs_nil g
  exact ⟨⟨x0, x1⟩, by rw [e0, r0, e1, r1, z]; rfl, ⟨w0, w1⟩⟩
def GWait.mk1 (k : Nat) (x : GWait) : GWait := ⟨((k : Nat) : Int), ((k + 1 : Nat) : Int)⟩
theorem GWait.eq_iff {a b : GWait} : a = b ↔ (a.Tx = b.Tx ∧ a.For = b.For) := by
  constructor
  · rintro rfl; exact ⟨rfl, rfl⟩
  · intro h; cases a; cases b; simp_all
theorem GWait.q_eqs {C : Cx} {st : St} {neg : Bool} {x y : XA} {a b : GWait} (hx : evA st.sl x = some a.av) (hy : evA st.sl y = some b.av) : QStep C st (.eqs neg [0, 0] x y) (bool (bif neg then !eqb a b else eqb a b)) := by
  refine q_as (Go.AM.q_eqs hx hy rfl) ?_
  have e : (decide (a.Tx = b.Tx) && (decide (a.For = b.For) && true)) = eqb a b := by
    rw [Bool.eq_iff_iff, eqb_iff, GWait.eq_iff]; simp [Bool.and_eq_true]
  show bool (bif neg then !(decide (a.Tx = b.Tx) && (decide (a.For = b.For) && true)) else (decide (a.Tx = b.Tx) && (decide (a.For = b.For) && true))) = _
  rw [e]

structure GLocks where
  Held : List GLock
  Waits : List GWait
def GLocks.av (x : GLocks) : AV := .agg [.d (.sl 4 (x.Held.map GLock.row)), .d (.sl 2 (x.Waits.map GWait.row))]
theorem GLocks.ext1 {a b : GLocks} (h0 : a.Held = b.Held) (h1 : a.Waits = b.Waits) : a = b := by cases a; cases b; simp_all
def GLocks.row (x : GLocks) : List D := [.sl 4 (x.Held.map GLock.row), .sl 2 (x.Waits.map GWait.row)]
def GLocks.wf (x : GLocks) : Prop := wfL GLock.wf x.Held ∧ wfL GWait.wf x.Waits
def GLocks.sz (x : GLocks) : Nat := szL (fun _ => 0) x.Held + szL (fun _ => 0) x.Waits
def GLocks.zero : GLocks := ⟨[], []⟩
theorem GLocks.dec {P : Program} {t : TypeId} {fs : Array Field} {f0 f1 : Field} (h : P.underlying t = some (.struct fs)) (hfs : fs.toList = [f0, f1]) (d0 : Dec P f0.type (fun xs => [.sl 4 (xs.map GLock.row)]) (wfL GLock.wf)) (d1 : Dec P f1.type (fun xs => [.sl 2 (xs.map GWait.row)]) (wfL GWait.wf)) : Dec P t GLocks.row GLocks.wf := fun hc => by
  have g := hasC_struct h hc
  rw [hfs] at g
  obtain ⟨a0, b0, e0, c0, g⟩ := hasFs_cons g
  obtain ⟨x0, r0, w0⟩ := d0 c0
  obtain ⟨a1, b1, e1, c1, g⟩ := hasFs_cons g
  obtain ⟨x1, r1, w1⟩ := d1 c1
  have z := hasFs_nil g
  exact ⟨⟨x0, x1⟩, by rw [e0, r0, e1, r1, z]; rfl, ⟨w0, w1⟩⟩
abbrev GLocks.avO (e0 e1 : Nat) (x : GLocks) : AV := .agg [.osl e0 4 0 x.Held.length, .osl e1 2 0 x.Waits.length]
abbrev GLocks.hO (e0 e1 : Nat) (x : GLocks) : List (Nat × OB) := [(e0, .rows 4 (x.Held.map GLock.row)), (e1, .rows 2 (x.Waits.map GWait.row))]
def GLocks.mkS (k : Nat) (x : GLocks) : GLocks := ⟨markL GLock.mk1 4 (k) x.Held, markL GWait.mk1 2 (k + 4 * x.Held.length) x.Waits⟩
def GLocks.mkN (k : Nat) (x : GLocks) : Nat := k + 4 * x.Held.length + 2 * x.Waits.length

structure GPending where
  At : Int
  Data : Str
def GPending.av (x : GPending) : AV := .agg [.d (.int .i64 x.At), .d (.str x.Data)]
theorem GPending.ext1 {a b : GPending} (h0 : a.At = b.At) (h1 : a.Data = b.Data) : a = b := by cases a; cases b; simp_all
def GPending.row (x : GPending) : List D := [.int .i64 x.At, .str x.Data]
def GPending.wf (x : GPending) : Prop := wfInt x.At ∧ wfStr x.Data
def GPending.sz (x : GPending) : Nat := x.Data.length
def GPending.zero : GPending := ⟨0, []⟩
theorem GPending.dec {P : Program} {t : TypeId} {fs : Array Field} {f0 f1 : Field} (h : P.underlying t = some (.struct fs)) (hfs : fs.toList = [f0, f1]) (d0 : Dec P f0.type intRow wfInt) (d1 : Dec P f1.type strRow wfStr) : Dec P t GPending.row GPending.wf := fun hc => by
  have g := hasC_struct h hc
  rw [hfs] at g
  obtain ⟨a0, b0, e0, c0, g⟩ := hasFs_cons g
  obtain ⟨x0, r0, w0⟩ := d0 c0
  obtain ⟨a1, b1, e1, c1, g⟩ := hasFs_cons g
  obtain ⟨x1, r1, w1⟩ := d1 c1
  have z := hasFs_nil g
  exact ⟨⟨x0, x1⟩, by rw [e0, r0, e1, r1, z]; rfl, ⟨w0, w1⟩⟩
def GPending.mk1 (k : Nat) (x : GPending) : GPending := ⟨((k : Nat) : Int), mkT (k + 1)⟩
theorem GPending.eq_iff {a b : GPending} : a = b ↔ (a.At = b.At ∧ a.Data = b.Data) := by
  constructor
  · rintro rfl; exact ⟨rfl, rfl⟩
  · intro h; cases a; cases b; simp_all
theorem GPending.q_eqs {C : Cx} {st : St} {neg : Bool} {x y : XA} {a b : GPending} (hx : evA st.sl x = some a.av) (hy : evA st.sl y = some b.av) : QStep C st (.eqs neg [0, 2] x y) (bool (bif neg then !eqb a b else eqb a b)) := by
  refine q_as (Go.AM.q_eqs hx hy rfl) ?_
  have e : (decide (a.At = b.At) && (decide (a.Data = b.Data) && true)) = eqb a b := by
    rw [Bool.eq_iff_iff, eqb_iff, GPending.eq_iff]; simp [Bool.and_eq_true]
  show bool (bif neg then !(decide (a.At = b.At) && (decide (a.Data = b.Data) && true)) else (decide (a.At = b.At) && (decide (a.Data = b.Data) && true))) = _
  rw [e]

structure GDisk where
  Sectors : List Str
  Cache : List GPending
  Armed : Bool
  Keep : List Int
def GDisk.av (x : GDisk) : AV := .agg [.d (.sl 1 (x.Sectors.map strRow)), .d (.sl 2 (x.Cache.map GPending.row)), .d (.bool x.Armed), .d (.sl 1 (x.Keep.map intRow))]
theorem GDisk.ext1 {a b : GDisk} (h0 : a.Sectors = b.Sectors) (h1 : a.Cache = b.Cache) (h2 : a.Armed = b.Armed) (h3 : a.Keep = b.Keep) : a = b := by cases a; cases b; simp_all
def GDisk.row (x : GDisk) : List D := [.sl 1 (x.Sectors.map strRow), .sl 2 (x.Cache.map GPending.row), .bool x.Armed, .sl 1 (x.Keep.map intRow)]
def GDisk.wf (x : GDisk) : Prop := wfL wfStr x.Sectors ∧ wfL GPending.wf x.Cache ∧ (fun _ => True) x.Armed ∧ wfL wfInt x.Keep
def GDisk.sz (x : GDisk) : Nat := szL List.length x.Sectors + szL GPending.sz x.Cache + szL (fun _ => 0) x.Keep
def GDisk.zero : GDisk := ⟨[], [], false, []⟩
theorem GDisk.dec {P : Program} {t : TypeId} {fs : Array Field} {f0 f1 f2 f3 : Field} (h : P.underlying t = some (.struct fs)) (hfs : fs.toList = [f0, f1, f2, f3]) (d0 : Dec P f0.type (fun xs => [.sl 1 (xs.map strRow)]) (wfL wfStr)) (d1 : Dec P f1.type (fun xs => [.sl 2 (xs.map GPending.row)]) (wfL GPending.wf)) (d2 : Dec P f2.type boolRow (fun _ => True)) (d3 : Dec P f3.type (fun xs => [.sl 1 (xs.map intRow)]) (wfL wfInt)) : Dec P t GDisk.row GDisk.wf := fun hc => by
  have g := hasC_struct h hc
  rw [hfs] at g
  obtain ⟨a0, b0, e0, c0, g⟩ := hasFs_cons g
  obtain ⟨x0, r0, w0⟩ := d0 c0
  obtain ⟨a1, b1, e1, c1, g⟩ := hasFs_cons g
  obtain ⟨x1, r1, w1⟩ := d1 c1
  obtain ⟨a2, b2, e2, c2, g⟩ := hasFs_cons g
  obtain ⟨x2, r2, w2⟩ := d2 c2
  obtain ⟨a3, b3, e3, c3, g⟩ := hasFs_cons g
  obtain ⟨x3, r3, w3⟩ := d3 c3
  have z := hasFs_nil g
  exact ⟨⟨x0, x1, x2, x3⟩, by rw [e0, r0, e1, r1, e2, r2, e3, r3, z]; rfl, ⟨w0, w1, w2, w3⟩⟩
abbrev GDisk.avO (e0 e1 e2 : Nat) (x : GDisk) : AV := .agg [.osl e0 1 0 x.Sectors.length, .osl e1 2 0 x.Cache.length, .d (.bool x.Armed), .osl e2 1 0 x.Keep.length]
abbrev GDisk.hO (e0 e1 e2 : Nat) (x : GDisk) : List (Nat × OB) := [(e0, .rows 1 (x.Sectors.map strRow)), (e1, .rows 2 (x.Cache.map GPending.row)), (e2, .rows 1 (x.Keep.map intRow))]
def GDisk.mkS (k : Nat) (x : GDisk) : GDisk := ⟨markL (fun k _ => mkT k) 1 (k) x.Sectors, markL GPending.mk1 2 (k + 1 * x.Sectors.length) x.Cache, x.Armed, markL (fun k _ => (k : Int)) 1 (k + 1 * x.Sectors.length + 2 * x.Cache.length) x.Keep⟩
def GDisk.mkN (k : Nat) (x : GDisk) : Nat := k + 1 * x.Sectors.length + 2 * x.Cache.length + 1 * x.Keep.length

def Page.row (x : Page) : List D := [.int .i64 x.lsn, .sl 1 (x.slots.map strRow)]
def Page.wf (x : Page) : Prop := wfInt x.lsn ∧ wfL wfStr x.slots
def Page.sz (x : Page) : Nat := szL List.length x.slots
theorem Page.dec {P : Program} {t : TypeId} {fs : Array Field} {f0 f1 : Field} (h : P.underlying t = some (.struct fs)) (hfs : fs.toList = [f0, f1]) (d0 : Dec P f0.type intRow wfInt) (d1 : Dec P f1.type (fun xs => [.sl 1 (xs.map strRow)]) (wfL wfStr)) : Dec P t Page.row Page.wf := fun hc => by
  have g := hasC_struct h hc
  rw [hfs] at g
  obtain ⟨a0, b0, e0, c0, g⟩ := hasFs_cons g
  obtain ⟨x0, r0, w0⟩ := d0 c0
  obtain ⟨a1, b1, e1, c1, g⟩ := hasFs_cons g
  obtain ⟨x1, r1, w1⟩ := d1 c1
  have z := hasFs_nil g
  exact ⟨⟨x0, x1⟩, by rw [e0, r0, e1, r1, z]; rfl, ⟨w0, w1⟩⟩
abbrev Page.avO (e0 : Nat) (x : Page) : AV := .agg [.d (.int .i64 x.lsn), .osl e0 1 0 x.slots.length]
abbrev Page.hO (e0 : Nat) (x : Page) : List (Nat × OB) := [(e0, .rows 1 (x.slots.map strRow))]
def Page.mkS (k : Nat) (x : Page) : Page := ⟨x.lsn, markL (fun k _ => mkT k) 1 (k) x.slots⟩
def Page.mkN (k : Nat) (x : Page) : Nat := k + 1 * x.slots.length

structure GValue where
  Kind : Int
  N : Int
  T : Str
def GValue.av (x : GValue) : AV := .agg [.d (.int .i64 x.Kind), .d (.int .i64 x.N), .d (.str x.T)]
theorem GValue.ext1 {a b : GValue} (h0 : a.Kind = b.Kind) (h1 : a.N = b.N) (h2 : a.T = b.T) : a = b := by cases a; cases b; simp_all
def GValue.row (x : GValue) : List D := [.int .i64 x.Kind, .int .i64 x.N, .str x.T]
def GValue.wf (x : GValue) : Prop := wfInt x.Kind ∧ wfInt x.N ∧ wfStr x.T
def GValue.sz (x : GValue) : Nat := x.T.length
def GValue.zero : GValue := ⟨0, 0, []⟩
theorem GValue.dec {P : Program} {t : TypeId} {fs : Array Field} {f0 f1 f2 : Field} (h : P.underlying t = some (.struct fs)) (hfs : fs.toList = [f0, f1, f2]) (d0 : Dec P f0.type intRow wfInt) (d1 : Dec P f1.type intRow wfInt) (d2 : Dec P f2.type strRow wfStr) : Dec P t GValue.row GValue.wf := fun hc => by
  have g := hasC_struct h hc
  rw [hfs] at g
  obtain ⟨a0, b0, e0, c0, g⟩ := hasFs_cons g
  obtain ⟨x0, r0, w0⟩ := d0 c0
  obtain ⟨a1, b1, e1, c1, g⟩ := hasFs_cons g
  obtain ⟨x1, r1, w1⟩ := d1 c1
  obtain ⟨a2, b2, e2, c2, g⟩ := hasFs_cons g
  obtain ⟨x2, r2, w2⟩ := d2 c2
  have z := hasFs_nil g
  exact ⟨⟨x0, x1, x2⟩, by rw [e0, r0, e1, r1, e2, r2, z]; rfl, ⟨w0, w1, w2⟩⟩
def GValue.mk1 (k : Nat) (x : GValue) : GValue := ⟨((k : Nat) : Int), ((k + 1 : Nat) : Int), mkT (k + 2)⟩
theorem GValue.eq_iff {a b : GValue} : a = b ↔ (a.Kind = b.Kind ∧ a.N = b.N ∧ a.T = b.T) := by
  constructor
  · rintro rfl; exact ⟨rfl, rfl, rfl⟩
  · intro h; cases a; cases b; simp_all
theorem GValue.q_eqs {C : Cx} {st : St} {neg : Bool} {x y : XA} {a b : GValue} (hx : evA st.sl x = some a.av) (hy : evA st.sl y = some b.av) : QStep C st (.eqs neg [0, 0, 2] x y) (bool (bif neg then !eqb a b else eqb a b)) := by
  refine q_as (Go.AM.q_eqs hx hy rfl) ?_
  have e : (decide (a.Kind = b.Kind) && (decide (a.N = b.N) && (decide (a.T = b.T) && true))) = eqb a b := by
    rw [Bool.eq_iff_iff, eqb_iff, GValue.eq_iff]; simp [Bool.and_eq_true]
  show bool (bif neg then !(decide (a.Kind = b.Kind) && (decide (a.N = b.N) && (decide (a.T = b.T) && true))) else (decide (a.Kind = b.Kind) && (decide (a.N = b.N) && (decide (a.T = b.T) && true)))) = _
  rw [e]

structure GExprNode where
  Op : Int
  A : Int
  B : Int
  Column : Int
  V : GValue
def GExprNode.av (x : GExprNode) : AV := .agg [.d (.int .i64 x.Op), .d (.int .i64 x.A), .d (.int .i64 x.B), .d (.int .i64 x.Column), .d (.int .i64 x.V.Kind), .d (.int .i64 x.V.N), .d (.str x.V.T)]
theorem GExprNode.ext1 {a b : GExprNode} (h0 : a.Op = b.Op) (h1 : a.A = b.A) (h2 : a.B = b.B) (h3 : a.Column = b.Column) (h4 : a.V = b.V) : a = b := by cases a; cases b; simp_all
def GExprNode.row (x : GExprNode) : List D := [.int .i64 x.Op, .int .i64 x.A, .int .i64 x.B, .int .i64 x.Column, .int .i64 x.V.Kind, .int .i64 x.V.N, .str x.V.T]
def GExprNode.wf (x : GExprNode) : Prop := wfInt x.Op ∧ wfInt x.A ∧ wfInt x.B ∧ wfInt x.Column ∧ GValue.wf x.V
def GExprNode.sz (x : GExprNode) : Nat := GValue.sz x.V
def GExprNode.zero : GExprNode := ⟨0, 0, 0, 0, GValue.zero⟩
theorem GExprNode.dec {P : Program} {t : TypeId} {fs : Array Field} {f0 f1 f2 f3 f4 : Field} (h : P.underlying t = some (.struct fs)) (hfs : fs.toList = [f0, f1, f2, f3, f4]) (d0 : Dec P f0.type intRow wfInt) (d1 : Dec P f1.type intRow wfInt) (d2 : Dec P f2.type intRow wfInt) (d3 : Dec P f3.type intRow wfInt) (d4 : Dec P f4.type GValue.row GValue.wf) : Dec P t GExprNode.row GExprNode.wf := fun hc => by
  have g := hasC_struct h hc
  rw [hfs] at g
  obtain ⟨a0, b0, e0, c0, g⟩ := hasFs_cons g
  obtain ⟨x0, r0, w0⟩ := d0 c0
  obtain ⟨a1, b1, e1, c1, g⟩ := hasFs_cons g
  obtain ⟨x1, r1, w1⟩ := d1 c1
  obtain ⟨a2, b2, e2, c2, g⟩ := hasFs_cons g
  obtain ⟨x2, r2, w2⟩ := d2 c2
  obtain ⟨a3, b3, e3, c3, g⟩ := hasFs_cons g
  obtain ⟨x3, r3, w3⟩ := d3 c3
  obtain ⟨a4, b4, e4, c4, g⟩ := hasFs_cons g
  obtain ⟨x4, r4, w4⟩ := d4 c4
  have z := hasFs_nil g
  exact ⟨⟨x0, x1, x2, x3, x4⟩, by rw [e0, r0, e1, r1, e2, r2, e3, r3, e4, r4, z]; rfl, ⟨w0, w1, w2, w3, w4⟩⟩
def GExprNode.mk1 (k : Nat) (x : GExprNode) : GExprNode := ⟨((k : Nat) : Int), ((k + 1 : Nat) : Int), ((k + 2 : Nat) : Int), ((k + 3 : Nat) : Int), ⟨((k + 4 : Nat) : Int), ((k + 5 : Nat) : Int), mkT (k + 6)⟩⟩
theorem GExprNode.eq_iff {a b : GExprNode} : a = b ↔ (a.Op = b.Op ∧ a.A = b.A ∧ a.B = b.B ∧ a.Column = b.Column ∧ a.V.Kind = b.V.Kind ∧ a.V.N = b.V.N ∧ a.V.T = b.V.T) := by
  constructor
  · rintro rfl; exact ⟨rfl, rfl, rfl, rfl, rfl, rfl, rfl⟩
  · intro h; cases a; cases b; simp_all [GValue.eq_iff]
theorem GExprNode.q_eqs {C : Cx} {st : St} {neg : Bool} {x y : XA} {a b : GExprNode} (hx : evA st.sl x = some a.av) (hy : evA st.sl y = some b.av) : QStep C st (.eqs neg [0, 0, 0, 0, 0, 0, 2] x y) (bool (bif neg then !eqb a b else eqb a b)) := by
  refine q_as (Go.AM.q_eqs hx hy rfl) ?_
  have e : (decide (a.Op = b.Op) && (decide (a.A = b.A) && (decide (a.B = b.B) && (decide (a.Column = b.Column) && (decide (a.V.Kind = b.V.Kind) && (decide (a.V.N = b.V.N) && (decide (a.V.T = b.V.T) && true))))))) = eqb a b := by
    rw [Bool.eq_iff_iff, eqb_iff, GExprNode.eq_iff]; simp [Bool.and_eq_true]
  show bool (bif neg then !(decide (a.Op = b.Op) && (decide (a.A = b.A) && (decide (a.B = b.B) && (decide (a.Column = b.Column) && (decide (a.V.Kind = b.V.Kind) && (decide (a.V.N = b.V.N) && (decide (a.V.T = b.V.T) && true))))))) else (decide (a.Op = b.Op) && (decide (a.A = b.A) && (decide (a.B = b.B) && (decide (a.Column = b.Column) && (decide (a.V.Kind = b.V.Kind) && (decide (a.V.N = b.V.N) && (decide (a.V.T = b.V.T) && true)))))))) = _
  rw [e]

structure GExpr where
  Nodes : List GExprNode
def GExpr.av (x : GExpr) : AV := .agg [.d (.sl 7 (x.Nodes.map GExprNode.row))]
theorem GExpr.ext1 {a b : GExpr} (h0 : a.Nodes = b.Nodes) : a = b := by cases a; cases b; simp_all
def GExpr.row (x : GExpr) : List D := [.sl 7 (x.Nodes.map GExprNode.row)]
def GExpr.wf (x : GExpr) : Prop := wfL GExprNode.wf x.Nodes
def GExpr.sz (x : GExpr) : Nat := szL GExprNode.sz x.Nodes
def GExpr.zero : GExpr := ⟨[]⟩
theorem GExpr.dec {P : Program} {t : TypeId} {fs : Array Field} {f0 : Field} (h : P.underlying t = some (.struct fs)) (hfs : fs.toList = [f0]) (d0 : Dec P f0.type (fun xs => [.sl 7 (xs.map GExprNode.row)]) (wfL GExprNode.wf)) : Dec P t GExpr.row GExpr.wf := fun hc => by
  have g := hasC_struct h hc
  rw [hfs] at g
  obtain ⟨a0, b0, e0, c0, g⟩ := hasFs_cons g
  obtain ⟨x0, r0, w0⟩ := d0 c0
  have z := hasFs_nil g
  exact ⟨⟨x0⟩, by rw [e0, r0, z]; rfl, w0⟩
abbrev GExpr.avO (e0 : Nat) (x : GExpr) : AV := .agg [.osl e0 7 0 x.Nodes.length]
abbrev GExpr.hO (e0 : Nat) (x : GExpr) : List (Nat × OB) := [(e0, .rows 7 (x.Nodes.map GExprNode.row))]
def GExpr.mkS (k : Nat) (x : GExpr) : GExpr := ⟨markL GExprNode.mk1 7 (k) x.Nodes⟩
def GExpr.mkN (k : Nat) (x : GExpr) : Nat := k + 7 * x.Nodes.length

structure GIns where
  Op : Int
  N : Int
  V : GValue
def GIns.av (x : GIns) : AV := .agg [.d (.int .i64 x.Op), .d (.int .i64 x.N), .d (.int .i64 x.V.Kind), .d (.int .i64 x.V.N), .d (.str x.V.T)]
theorem GIns.ext1 {a b : GIns} (h0 : a.Op = b.Op) (h1 : a.N = b.N) (h2 : a.V = b.V) : a = b := by cases a; cases b; simp_all
def GIns.row (x : GIns) : List D := [.int .i64 x.Op, .int .i64 x.N, .int .i64 x.V.Kind, .int .i64 x.V.N, .str x.V.T]
def GIns.wf (x : GIns) : Prop := wfInt x.Op ∧ wfInt x.N ∧ GValue.wf x.V
def GIns.sz (x : GIns) : Nat := GValue.sz x.V
def GIns.zero : GIns := ⟨0, 0, GValue.zero⟩
theorem GIns.dec {P : Program} {t : TypeId} {fs : Array Field} {f0 f1 f2 : Field} (h : P.underlying t = some (.struct fs)) (hfs : fs.toList = [f0, f1, f2]) (d0 : Dec P f0.type intRow wfInt) (d1 : Dec P f1.type intRow wfInt) (d2 : Dec P f2.type GValue.row GValue.wf) : Dec P t GIns.row GIns.wf := fun hc => by
  have g := hasC_struct h hc
  rw [hfs] at g
  obtain ⟨a0, b0, e0, c0, g⟩ := hasFs_cons g
  obtain ⟨x0, r0, w0⟩ := d0 c0
  obtain ⟨a1, b1, e1, c1, g⟩ := hasFs_cons g
  obtain ⟨x1, r1, w1⟩ := d1 c1
  obtain ⟨a2, b2, e2, c2, g⟩ := hasFs_cons g
  obtain ⟨x2, r2, w2⟩ := d2 c2
  have z := hasFs_nil g
  exact ⟨⟨x0, x1, x2⟩, by rw [e0, r0, e1, r1, e2, r2, z]; rfl, ⟨w0, w1, w2⟩⟩
def GIns.mk1 (k : Nat) (x : GIns) : GIns := ⟨((k : Nat) : Int), ((k + 1 : Nat) : Int), ⟨((k + 2 : Nat) : Int), ((k + 3 : Nat) : Int), mkT (k + 4)⟩⟩
theorem GIns.eq_iff {a b : GIns} : a = b ↔ (a.Op = b.Op ∧ a.N = b.N ∧ a.V.Kind = b.V.Kind ∧ a.V.N = b.V.N ∧ a.V.T = b.V.T) := by
  constructor
  · rintro rfl; exact ⟨rfl, rfl, rfl, rfl, rfl⟩
  · intro h; cases a; cases b; simp_all [GValue.eq_iff]
theorem GIns.q_eqs {C : Cx} {st : St} {neg : Bool} {x y : XA} {a b : GIns} (hx : evA st.sl x = some a.av) (hy : evA st.sl y = some b.av) : QStep C st (.eqs neg [0, 0, 0, 0, 2] x y) (bool (bif neg then !eqb a b else eqb a b)) := by
  refine q_as (Go.AM.q_eqs hx hy rfl) ?_
  have e : (decide (a.Op = b.Op) && (decide (a.N = b.N) && (decide (a.V.Kind = b.V.Kind) && (decide (a.V.N = b.V.N) && (decide (a.V.T = b.V.T) && true))))) = eqb a b := by
    rw [Bool.eq_iff_iff, eqb_iff, GIns.eq_iff]; simp [Bool.and_eq_true]
  show bool (bif neg then !(decide (a.Op = b.Op) && (decide (a.N = b.N) && (decide (a.V.Kind = b.V.Kind) && (decide (a.V.N = b.V.N) && (decide (a.V.T = b.V.T) && true))))) else (decide (a.Op = b.Op) && (decide (a.N = b.N) && (decide (a.V.Kind = b.V.Kind) && (decide (a.V.N = b.V.N) && (decide (a.V.T = b.V.T) && true)))))) = _
  rw [e]

structure GRow where
  Id : Int
  N : GValue
  Name : GValue
def GRow.av (x : GRow) : AV := .agg [.d (.int .i64 x.Id), .d (.int .i64 x.N.Kind), .d (.int .i64 x.N.N), .d (.str x.N.T), .d (.int .i64 x.Name.Kind), .d (.int .i64 x.Name.N), .d (.str x.Name.T)]
theorem GRow.ext1 {a b : GRow} (h0 : a.Id = b.Id) (h1 : a.N = b.N) (h2 : a.Name = b.Name) : a = b := by cases a; cases b; simp_all
def GRow.row (x : GRow) : List D := [.int .i64 x.Id, .int .i64 x.N.Kind, .int .i64 x.N.N, .str x.N.T, .int .i64 x.Name.Kind, .int .i64 x.Name.N, .str x.Name.T]
def GRow.wf (x : GRow) : Prop := wfInt x.Id ∧ GValue.wf x.N ∧ GValue.wf x.Name
def GRow.sz (x : GRow) : Nat := GValue.sz x.N + GValue.sz x.Name
def GRow.zero : GRow := ⟨0, GValue.zero, GValue.zero⟩
theorem GRow.dec {P : Program} {t : TypeId} {fs : Array Field} {f0 f1 f2 : Field} (h : P.underlying t = some (.struct fs)) (hfs : fs.toList = [f0, f1, f2]) (d0 : Dec P f0.type intRow wfInt) (d1 : Dec P f1.type GValue.row GValue.wf) (d2 : Dec P f2.type GValue.row GValue.wf) : Dec P t GRow.row GRow.wf := fun hc => by
  have g := hasC_struct h hc
  rw [hfs] at g
  obtain ⟨a0, b0, e0, c0, g⟩ := hasFs_cons g
  obtain ⟨x0, r0, w0⟩ := d0 c0
  obtain ⟨a1, b1, e1, c1, g⟩ := hasFs_cons g
  obtain ⟨x1, r1, w1⟩ := d1 c1
  obtain ⟨a2, b2, e2, c2, g⟩ := hasFs_cons g
  obtain ⟨x2, r2, w2⟩ := d2 c2
  have z := hasFs_nil g
  exact ⟨⟨x0, x1, x2⟩, by rw [e0, r0, e1, r1, e2, r2, z]; rfl, ⟨w0, w1, w2⟩⟩
def GRow.mk1 (k : Nat) (x : GRow) : GRow := ⟨((k : Nat) : Int), ⟨((k + 1 : Nat) : Int), ((k + 2 : Nat) : Int), mkT (k + 3)⟩, ⟨((k + 4 : Nat) : Int), ((k + 5 : Nat) : Int), mkT (k + 6)⟩⟩
theorem GRow.eq_iff {a b : GRow} : a = b ↔ (a.Id = b.Id ∧ a.N.Kind = b.N.Kind ∧ a.N.N = b.N.N ∧ a.N.T = b.N.T ∧ a.Name.Kind = b.Name.Kind ∧ a.Name.N = b.Name.N ∧ a.Name.T = b.Name.T) := by
  constructor
  · rintro rfl; exact ⟨rfl, rfl, rfl, rfl, rfl, rfl, rfl⟩
  · intro h; cases a; cases b; simp_all [GValue.eq_iff, GValue.eq_iff]
theorem GRow.q_eqs {C : Cx} {st : St} {neg : Bool} {x y : XA} {a b : GRow} (hx : evA st.sl x = some a.av) (hy : evA st.sl y = some b.av) : QStep C st (.eqs neg [0, 0, 0, 2, 0, 0, 2] x y) (bool (bif neg then !eqb a b else eqb a b)) := by
  refine q_as (Go.AM.q_eqs hx hy rfl) ?_
  have e : (decide (a.Id = b.Id) && (decide (a.N.Kind = b.N.Kind) && (decide (a.N.N = b.N.N) && (decide (a.N.T = b.N.T) && (decide (a.Name.Kind = b.Name.Kind) && (decide (a.Name.N = b.Name.N) && (decide (a.Name.T = b.Name.T) && true))))))) = eqb a b := by
    rw [Bool.eq_iff_iff, eqb_iff, GRow.eq_iff]; simp [Bool.and_eq_true]
  show bool (bif neg then !(decide (a.Id = b.Id) && (decide (a.N.Kind = b.N.Kind) && (decide (a.N.N = b.N.N) && (decide (a.N.T = b.N.T) && (decide (a.Name.Kind = b.Name.Kind) && (decide (a.Name.N = b.Name.N) && (decide (a.Name.T = b.Name.T) && true))))))) else (decide (a.Id = b.Id) && (decide (a.N.Kind = b.N.Kind) && (decide (a.N.N = b.N.N) && (decide (a.N.T = b.N.T) && (decide (a.Name.Kind = b.Name.Kind) && (decide (a.Name.N = b.Name.N) && (decide (a.Name.T = b.Name.T) && true)))))))) = _
  rw [e]

structure GStmt where
  Kind : Int
  Table : Int
  Row : GRow
  Column : Int
  Set : GExpr
  Where : GExpr
  Order : Int
  Down : Bool
def GStmt.av (x : GStmt) : AV := .agg [.d (.int .i64 x.Kind), .d (.int .i64 x.Table), .d (.int .i64 x.Row.Id), .d (.int .i64 x.Row.N.Kind), .d (.int .i64 x.Row.N.N), .d (.str x.Row.N.T), .d (.int .i64 x.Row.Name.Kind), .d (.int .i64 x.Row.Name.N), .d (.str x.Row.Name.T), .d (.int .i64 x.Column), .d (.sl 7 (x.Set.Nodes.map GExprNode.row)), .d (.sl 7 (x.Where.Nodes.map GExprNode.row)), .d (.int .i64 x.Order), .d (.bool x.Down)]
theorem GStmt.ext1 {a b : GStmt} (h0 : a.Kind = b.Kind) (h1 : a.Table = b.Table) (h2 : a.Row = b.Row) (h3 : a.Column = b.Column) (h4 : a.Set = b.Set) (h5 : a.Where = b.Where) (h6 : a.Order = b.Order) (h7 : a.Down = b.Down) : a = b := by cases a; cases b; simp_all
def GStmt.row (x : GStmt) : List D := [.int .i64 x.Kind, .int .i64 x.Table, .int .i64 x.Row.Id, .int .i64 x.Row.N.Kind, .int .i64 x.Row.N.N, .str x.Row.N.T, .int .i64 x.Row.Name.Kind, .int .i64 x.Row.Name.N, .str x.Row.Name.T, .int .i64 x.Column, .sl 7 (x.Set.Nodes.map GExprNode.row), .sl 7 (x.Where.Nodes.map GExprNode.row), .int .i64 x.Order, .bool x.Down]
def GStmt.wf (x : GStmt) : Prop := wfInt x.Kind ∧ wfInt x.Table ∧ GRow.wf x.Row ∧ wfInt x.Column ∧ GExpr.wf x.Set ∧ GExpr.wf x.Where ∧ wfInt x.Order ∧ (fun _ => True) x.Down
def GStmt.sz (x : GStmt) : Nat := GRow.sz x.Row + GExpr.sz x.Set + GExpr.sz x.Where
def GStmt.zero : GStmt := ⟨0, 0, GRow.zero, 0, GExpr.zero, GExpr.zero, 0, false⟩
theorem GStmt.dec {P : Program} {t : TypeId} {fs : Array Field} {f0 f1 f2 f3 f4 f5 f6 f7 : Field} (h : P.underlying t = some (.struct fs)) (hfs : fs.toList = [f0, f1, f2, f3, f4, f5, f6, f7]) (d0 : Dec P f0.type intRow wfInt) (d1 : Dec P f1.type intRow wfInt) (d2 : Dec P f2.type GRow.row GRow.wf) (d3 : Dec P f3.type intRow wfInt) (d4 : Dec P f4.type GExpr.row GExpr.wf) (d5 : Dec P f5.type GExpr.row GExpr.wf) (d6 : Dec P f6.type intRow wfInt) (d7 : Dec P f7.type boolRow (fun _ => True)) : Dec P t GStmt.row GStmt.wf := fun hc => by
  have g := hasC_struct h hc
  rw [hfs] at g
  obtain ⟨a0, b0, e0, c0, g⟩ := hasFs_cons g
  obtain ⟨x0, r0, w0⟩ := d0 c0
  obtain ⟨a1, b1, e1, c1, g⟩ := hasFs_cons g
  obtain ⟨x1, r1, w1⟩ := d1 c1
  obtain ⟨a2, b2, e2, c2, g⟩ := hasFs_cons g
  obtain ⟨x2, r2, w2⟩ := d2 c2
  obtain ⟨a3, b3, e3, c3, g⟩ := hasFs_cons g
  obtain ⟨x3, r3, w3⟩ := d3 c3
  obtain ⟨a4, b4, e4, c4, g⟩ := hasFs_cons g
  obtain ⟨x4, r4, w4⟩ := d4 c4
  obtain ⟨a5, b5, e5, c5, g⟩ := hasFs_cons g
  obtain ⟨x5, r5, w5⟩ := d5 c5
  obtain ⟨a6, b6, e6, c6, g⟩ := hasFs_cons g
  obtain ⟨x6, r6, w6⟩ := d6 c6
  obtain ⟨a7, b7, e7, c7, g⟩ := hasFs_cons g
  obtain ⟨x7, r7, w7⟩ := d7 c7
  have z := hasFs_nil g
  exact ⟨⟨x0, x1, x2, x3, x4, x5, x6, x7⟩, by rw [e0, r0, e1, r1, e2, r2, e3, r3, e4, r4, e5, r5, e6, r6, e7, r7, z]; rfl, ⟨w0, w1, w2, w3, w4, w5, w6, w7⟩⟩
abbrev GStmt.avO (e0 e1 : Nat) (x : GStmt) : AV := .agg [.d (.int .i64 x.Kind), .d (.int .i64 x.Table), .d (.int .i64 x.Row.Id), .d (.int .i64 x.Row.N.Kind), .d (.int .i64 x.Row.N.N), .d (.str x.Row.N.T), .d (.int .i64 x.Row.Name.Kind), .d (.int .i64 x.Row.Name.N), .d (.str x.Row.Name.T), .d (.int .i64 x.Column), .osl e0 7 0 x.Set.Nodes.length, .osl e1 7 0 x.Where.Nodes.length, .d (.int .i64 x.Order), .d (.bool x.Down)]
abbrev GStmt.hO (e0 e1 : Nat) (x : GStmt) : List (Nat × OB) := [(e0, .rows 7 (x.Set.Nodes.map GExprNode.row)), (e1, .rows 7 (x.Where.Nodes.map GExprNode.row))]
def GStmt.mkS (k : Nat) (x : GStmt) : GStmt := ⟨x.Kind, x.Table, ⟨x.Row.Id, ⟨x.Row.N.Kind, x.Row.N.N, x.Row.N.T⟩, ⟨x.Row.Name.Kind, x.Row.Name.N, x.Row.Name.T⟩⟩, x.Column, ⟨markL GExprNode.mk1 7 (k) x.Set.Nodes⟩, ⟨markL GExprNode.mk1 7 (k + 7 * x.Set.Nodes.length) x.Where.Nodes⟩, x.Order, x.Down⟩
def GStmt.mkN (k : Nat) (x : GStmt) : Nat := k + 7 * x.Set.Nodes.length + 7 * x.Where.Nodes.length

structure GAnswer where
  Rows : List GRow
  Count : Int
def GAnswer.av (x : GAnswer) : AV := .agg [.d (.sl 7 (x.Rows.map GRow.row)), .d (.int .i64 x.Count)]
theorem GAnswer.ext1 {a b : GAnswer} (h0 : a.Rows = b.Rows) (h1 : a.Count = b.Count) : a = b := by cases a; cases b; simp_all
def GAnswer.row (x : GAnswer) : List D := [.sl 7 (x.Rows.map GRow.row), .int .i64 x.Count]
def GAnswer.wf (x : GAnswer) : Prop := wfL GRow.wf x.Rows ∧ wfInt x.Count
def GAnswer.sz (x : GAnswer) : Nat := szL GRow.sz x.Rows
def GAnswer.zero : GAnswer := ⟨[], 0⟩
theorem GAnswer.dec {P : Program} {t : TypeId} {fs : Array Field} {f0 f1 : Field} (h : P.underlying t = some (.struct fs)) (hfs : fs.toList = [f0, f1]) (d0 : Dec P f0.type (fun xs => [.sl 7 (xs.map GRow.row)]) (wfL GRow.wf)) (d1 : Dec P f1.type intRow wfInt) : Dec P t GAnswer.row GAnswer.wf := fun hc => by
  have g := hasC_struct h hc
  rw [hfs] at g
  obtain ⟨a0, b0, e0, c0, g⟩ := hasFs_cons g
  obtain ⟨x0, r0, w0⟩ := d0 c0
  obtain ⟨a1, b1, e1, c1, g⟩ := hasFs_cons g
  obtain ⟨x1, r1, w1⟩ := d1 c1
  have z := hasFs_nil g
  exact ⟨⟨x0, x1⟩, by rw [e0, r0, e1, r1, z]; rfl, ⟨w0, w1⟩⟩
abbrev GAnswer.avO (e0 : Nat) (x : GAnswer) : AV := .agg [.osl e0 7 0 x.Rows.length, .d (.int .i64 x.Count)]
abbrev GAnswer.hO (e0 : Nat) (x : GAnswer) : List (Nat × OB) := [(e0, .rows 7 (x.Rows.map GRow.row))]
def GAnswer.mkS (k : Nat) (x : GAnswer) : GAnswer := ⟨markL GRow.mk1 7 (k) x.Rows, x.Count⟩
def GAnswer.mkN (k : Nat) (x : GAnswer) : Nat := k + 7 * x.Rows.length

structure GChange where
  Session : Int
  Table : Int
  Row : GRow
  Gone : Bool
def GChange.av (x : GChange) : AV := .agg [.d (.int .i64 x.Session), .d (.int .i64 x.Table), .d (.int .i64 x.Row.Id), .d (.int .i64 x.Row.N.Kind), .d (.int .i64 x.Row.N.N), .d (.str x.Row.N.T), .d (.int .i64 x.Row.Name.Kind), .d (.int .i64 x.Row.Name.N), .d (.str x.Row.Name.T), .d (.bool x.Gone)]
theorem GChange.ext1 {a b : GChange} (h0 : a.Session = b.Session) (h1 : a.Table = b.Table) (h2 : a.Row = b.Row) (h3 : a.Gone = b.Gone) : a = b := by cases a; cases b; simp_all
def GChange.row (x : GChange) : List D := [.int .i64 x.Session, .int .i64 x.Table, .int .i64 x.Row.Id, .int .i64 x.Row.N.Kind, .int .i64 x.Row.N.N, .str x.Row.N.T, .int .i64 x.Row.Name.Kind, .int .i64 x.Row.Name.N, .str x.Row.Name.T, .bool x.Gone]
def GChange.wf (x : GChange) : Prop := wfInt x.Session ∧ wfInt x.Table ∧ GRow.wf x.Row ∧ (fun _ => True) x.Gone
def GChange.sz (x : GChange) : Nat := GRow.sz x.Row
def GChange.zero : GChange := ⟨0, 0, GRow.zero, false⟩
theorem GChange.dec {P : Program} {t : TypeId} {fs : Array Field} {f0 f1 f2 f3 : Field} (h : P.underlying t = some (.struct fs)) (hfs : fs.toList = [f0, f1, f2, f3]) (d0 : Dec P f0.type intRow wfInt) (d1 : Dec P f1.type intRow wfInt) (d2 : Dec P f2.type GRow.row GRow.wf) (d3 : Dec P f3.type boolRow (fun _ => True)) : Dec P t GChange.row GChange.wf := fun hc => by
  have g := hasC_struct h hc
  rw [hfs] at g
  obtain ⟨a0, b0, e0, c0, g⟩ := hasFs_cons g
  obtain ⟨x0, r0, w0⟩ := d0 c0
  obtain ⟨a1, b1, e1, c1, g⟩ := hasFs_cons g
  obtain ⟨x1, r1, w1⟩ := d1 c1
  obtain ⟨a2, b2, e2, c2, g⟩ := hasFs_cons g
  obtain ⟨x2, r2, w2⟩ := d2 c2
  obtain ⟨a3, b3, e3, c3, g⟩ := hasFs_cons g
  obtain ⟨x3, r3, w3⟩ := d3 c3
  have z := hasFs_nil g
  exact ⟨⟨x0, x1, x2, x3⟩, by rw [e0, r0, e1, r1, e2, r2, e3, r3, z]; rfl, ⟨w0, w1, w2, w3⟩⟩
def GChange.mk1 (k : Nat) (x : GChange) : GChange := ⟨((k : Nat) : Int), ((k + 1 : Nat) : Int), ⟨((k + 2 : Nat) : Int), ⟨((k + 3 : Nat) : Int), ((k + 4 : Nat) : Int), mkT (k + 5)⟩, ⟨((k + 6 : Nat) : Int), ((k + 7 : Nat) : Int), mkT (k + 8)⟩⟩, (decide (((k + 9 : Nat) : Int) % 3 = 0))⟩
theorem GChange.eq_iff {a b : GChange} : a = b ↔ (a.Session = b.Session ∧ a.Table = b.Table ∧ a.Row.Id = b.Row.Id ∧ a.Row.N.Kind = b.Row.N.Kind ∧ a.Row.N.N = b.Row.N.N ∧ a.Row.N.T = b.Row.N.T ∧ a.Row.Name.Kind = b.Row.Name.Kind ∧ a.Row.Name.N = b.Row.Name.N ∧ a.Row.Name.T = b.Row.Name.T ∧ a.Gone = b.Gone) := by
  constructor
  · rintro rfl; exact ⟨rfl, rfl, rfl, rfl, rfl, rfl, rfl, rfl, rfl, rfl⟩
  · intro h; cases a; cases b; simp_all [GRow.eq_iff]
theorem GChange.q_eqs {C : Cx} {st : St} {neg : Bool} {x y : XA} {a b : GChange} (hx : evA st.sl x = some a.av) (hy : evA st.sl y = some b.av) : QStep C st (.eqs neg [0, 0, 0, 0, 0, 2, 0, 0, 2, 1] x y) (bool (bif neg then !eqb a b else eqb a b)) := by
  refine q_as (Go.AM.q_eqs hx hy rfl) ?_
  have e : (decide (a.Session = b.Session) && (decide (a.Table = b.Table) && (decide (a.Row.Id = b.Row.Id) && (decide (a.Row.N.Kind = b.Row.N.Kind) && (decide (a.Row.N.N = b.Row.N.N) && (decide (a.Row.N.T = b.Row.N.T) && (decide (a.Row.Name.Kind = b.Row.Name.Kind) && (decide (a.Row.Name.N = b.Row.Name.N) && (decide (a.Row.Name.T = b.Row.Name.T) && (decide (a.Gone = b.Gone) && true)))))))))) = eqb a b := by
    rw [Bool.eq_iff_iff, eqb_iff, GChange.eq_iff]; simp [Bool.and_eq_true]
  show bool (bif neg then !(decide (a.Session = b.Session) && (decide (a.Table = b.Table) && (decide (a.Row.Id = b.Row.Id) && (decide (a.Row.N.Kind = b.Row.N.Kind) && (decide (a.Row.N.N = b.Row.N.N) && (decide (a.Row.N.T = b.Row.N.T) && (decide (a.Row.Name.Kind = b.Row.Name.Kind) && (decide (a.Row.Name.N = b.Row.Name.N) && (decide (a.Row.Name.T = b.Row.Name.T) && (decide (a.Gone = b.Gone) && true)))))))))) else (decide (a.Session = b.Session) && (decide (a.Table = b.Table) && (decide (a.Row.Id = b.Row.Id) && (decide (a.Row.N.Kind = b.Row.N.Kind) && (decide (a.Row.N.N = b.Row.N.N) && (decide (a.Row.N.T = b.Row.N.T) && (decide (a.Row.Name.Kind = b.Row.Name.Kind) && (decide (a.Row.Name.N = b.Row.Name.N) && (decide (a.Row.Name.T = b.Row.Name.T) && (decide (a.Gone = b.Gone) && true))))))))))) = _
  rw [e]

end Go.AM

/- Plain laws: sources of choices. -/
namespace Go.AM
structure Src where
  code : Str
  pos : Int
  seed : Int
abbrev Src.box (s : Src) : OB := .box [.d (.sl 1 (s.code.map byteRow)), int s.pos, int s.seed]
abbrev Src.h (e : Nat) (s : Src) : List (Nat × OB) := [(e, s.box)]
structure Src.ok (s : Src) (n : Nat) : Prop where
  pos : 0 ≤ s.pos ∧ s.pos + n ≤ 1000000000
  seed : 0 ≤ s.seed ∧ s.seed < 2147483648
  len : s.code.length ≤ 1048576
theorem Src.ok.mono {s : Src} {n m : Nat} (h : s.ok n) (hm : m ≤ n) : s.ok m := ⟨by have := h.pos; omega, h.seed, h.len⟩
def srcOf (code : Str) : Src := ⟨code, 0, (code.length : Int) % 1000⟩
theorem srcOf_ok {code : Str} (h : code.length ≤ 1048576) : (srcOf code).ok 1000000000 := ⟨by simp [srcOf], by unfold srcOf; dsimp only; omega, h⟩
def byteF (s : Src) : Int × Src :=
  if s.pos + 1 ≤ s.code.length then ((s.code.getD s.pos.toNat 0).toNat, ⟨s.code, s.pos + 1, (s.seed * 31 + (s.code.getD s.pos.toNat 0).toNat + 7) % 2147483648⟩)
  else if 3000 < s.pos + 1 then (0, ⟨s.code, s.pos + 1, s.seed⟩)
  else ((s.seed * 1103515245 + 12345) % 2147483648 / 65536 % 256, ⟨s.code, s.pos + 1, (s.seed * 1103515245 + 12345) % 2147483648⟩)
theorem byteF_1 {s : Src} (h : s.pos + 1 ≤ s.code.length) : byteF s = (((s.code.getD s.pos.toNat 0).toNat : Int), ⟨s.code, s.pos + 1, (s.seed * 31 + (s.code.getD s.pos.toNat 0).toNat + 7) % 2147483648⟩) := by unfold byteF; rw [if_pos h]
theorem byteF_2 {s : Src} (h : ¬ s.pos + 1 ≤ s.code.length) (h1 : 3000 < s.pos + 1) : byteF s = (0, ⟨s.code, s.pos + 1, s.seed⟩) := by unfold byteF; rw [if_neg h, if_pos h1]
theorem byteF_3 {s : Src} (h : ¬ s.pos + 1 ≤ s.code.length) (h1 : ¬ 3000 < s.pos + 1) : byteF s = ((s.seed * 1103515245 + 12345) % 2147483648 / 65536 % 256, ⟨s.code, s.pos + 1, (s.seed * 1103515245 + 12345) % 2147483648⟩) := by unfold byteF; rw [if_neg h, if_neg h1]
theorem byteF_ok {s : Src} {n : Nat} (h : s.ok (n + 1)) : (byteF s).2.ok n ∧ 0 ≤ (byteF s).1 ∧ (byteF s).1 < 256 := by
  have h1 := h.pos
  have h2 := h.seed
  have h3 := h.len
  have h4 := (s.code.getD s.pos.toNat 0).toNat_lt
  unfold byteF
  split
  · exact ⟨⟨by dsimp only; omega, by dsimp only; omega, h3⟩, by dsimp only; omega, by dsimp only; omega⟩
  · split
    · exact ⟨⟨by dsimp only; omega, h2, h3⟩, by dsimp only; omega, by dsimp only; omega⟩
    · exact ⟨⟨by dsimp only; omega, by dsimp only; omega, h3⟩, by dsimp only; omega, by dsimp only; omega⟩
def nextF (s : Src) (n : Int) : Int × Src :=
  if n ≤ 1 then (0, s) else if n ≤ 256 then ((byteF s).1 % n, (byteF s).2)
  else (((byteF s).1 * 65536 + (byteF (byteF s).2).1 * 256 + (byteF (byteF (byteF s).2).2).1) % n, (byteF (byteF (byteF s).2).2).2)
theorem nextF_1 {s : Src} {n : Int} (h : n ≤ 1) : nextF s n = (0, s) := by unfold nextF; rw [if_pos h]
theorem nextF_2 {s : Src} {n : Int} (h : ¬ n ≤ 1) (h1 : n ≤ 256) : nextF s n = ((byteF s).1 % n, (byteF s).2) := by unfold nextF; rw [if_neg h, if_pos h1]
theorem nextF_3 {s : Src} {n : Int} (h : ¬ n ≤ 1) (h1 : ¬ n ≤ 256) : nextF s n = (((byteF s).1 * 65536 + (byteF (byteF s).2).1 * 256 + (byteF (byteF (byteF s).2).2).1) % n, (byteF (byteF (byteF s).2).2).2) := by unfold nextF; rw [if_neg h, if_neg h1]
theorem nextF_ok {s : Src} {n : Int} {k : Nat} (h : s.ok (k + 3)) : (nextF s n).2.ok k ∧ 0 ≤ (nextF s n).1 ∧ (1 ≤ n → (nextF s n).1 < n) := by
  unfold nextF
  split
  · exact ⟨h.mono (by omega), by dsimp only; omega, fun _ => by dsimp only; omega⟩
  · rename_i h1
    split
    · obtain ⟨h2, h3, h4⟩ := byteF_ok (n := k) (h.mono (by omega))
      exact ⟨h2, Int.emod_nonneg _ (by omega), fun _ => Int.emod_lt_of_pos _ (by omega)⟩
    · obtain ⟨h2, h3, h4⟩ := byteF_ok (n := k + 2) h
      obtain ⟨h5, h6, h7⟩ := byteF_ok (n := k + 1) h2
      obtain ⟨h8, h9, h10⟩ := byteF_ok (n := k) h5
      exact ⟨h8, Int.emod_nonneg _ (by omega), fun _ => Int.emod_lt_of_pos _ (by omega)⟩
def chanceF (s : Src) (n : Int) : Bool × Src := (decide ((nextF s n).1 = n - 1), (nextF s n).2)
theorem getD_at {l : Str} {i : Nat} (h : i < l.length) : l.getD i 0 = l[i] := by simp [List.getD, h]
/-- The i-th choice out of n that some bytes make. -/
def atF (more : Str) (i n : Int) : Int :=
  if n ≤ 1 then 0 else if more = [] then i * 7 % n else
  (((more.getD (i % more.length).toNat 0).toNat * 31 + (more.getD ((i + 1) % more.length).toNat 0).toNat : Int) + i / more.length) % n
theorem atF_bounds {more : Str} {i n : Int} (hn : 1 ≤ n) : 0 ≤ atF more i n ∧ atF more i n < n := by
  unfold atF
  split
  · omega
  · split
    · exact ⟨Int.emod_nonneg _ (by omega), Int.emod_lt_of_pos _ (by omega)⟩
    · exact ⟨Int.emod_nonneg _ (by omega), Int.emod_lt_of_pos _ (by omega)⟩
end Go.AM

/- Plain laws: locks. -/
namespace Go.AM
def allIx (p : Nat → Bool) : Nat → Bool
  | 0 => true
  | n + 1 => allIx p n && p n
theorem allIx_step {p : Nat → Bool} {k : Nat} (h : allIx p k = true) (hp : p k = true) : allIx p (k + 1) = true := by rw [allIx, h, hp]; rfl
theorem allIx_no {p : Nat → Bool} {n k : Nat} (hk : k < n) (hp : p k = false) : allIx p n = false := by
  induction n with
  | zero => omega
  | succ n ih =>
    rw [allIx]
    rcases Nat.lt_or_ge k n with h | h
    · rw [ih h]; rfl
    · rw [show n = k from by omega, hp, Bool.and_false]
theorem allIx_get {p : Nat → Bool} {n k : Nat} (h : allIx p n = true) (hk : k < n) : p k = true := by
  cases hp : p k with
  | true => rfl
  | false => rw [allIx_no hk hp] at h; cases h
theorem any_take {α : Type} {f : α → Bool} {xs : List α} {i : Nat} (h : ∀ j, j < i → ∀ x, xs[j]? = some x → f x = false) : (xs.take i).any f = false := by
  refine any_all fun j hj x hx => ?_
  rw [List.length_take] at hj
  rw [List.getElem?_take] at hx
  split at hx
  · exact h j (by omega) x hx
  · cases hx
theorem any_take_hit {α : Type} {f : α → Bool} {xs : List α} {i j : Nat} (hj : j < i) (hx : j < xs.length) (h : f xs[j] = true) : (xs.take i).any f = true :=
  List.any_eq_true.2 ⟨xs[j], List.mem_iff_getElem.2 ⟨j, by simp; omega, by simp⟩, h⟩

def isTx (n : Int) : Bool := inR n 1 60
def isMode (n : Int) : Bool := inR n 1 4
def lockOK (l : GLock) : Bool := (((isTx l.Tx && inR l.Table 1 3) && inR l.Row (-1) 1000) && isMode l.Mode) && (decide (l.Row < 0) || decide (3 ≤ l.Mode))
def modesFit (a b : Int) : Bool := (!decide (a = 4) && !decide (b = 4)) && ((decide (a = 1) || decide (b = 1)) || decide (a = b))
def isThing (a b : GLock) : Bool := decide (a.Table = b.Table) && decide (a.Row = b.Row)
def clashes (a b : GLock) : Bool := (!decide (a.Tx = b.Tx) && isThing a b) && !modesFit a.Mode b.Mode
def badWait (w : GWait) : Bool := (!isTx w.Tx || !isTx w.For) || decide (w.Tx = w.For)
def hasL (h x : GLock) : Bool := (decide (h.Tx = x.Tx) && isThing h x) && ((decide (h.Mode = 4) || decide (x.Mode = 1)) || decide (h.Mode = x.Mode))
noncomputable def twice (a b : GLock) : Bool := eqb a b || clashes a b
noncomputable def okAt (xs : List GLock) (j : Nat) : Bool := match xs[j]? with
  | some a => lockOK a && !(xs.take j).any (twice a)
  | none => true
theorem okAt_get {xs : List GLock} {j : Nat} (h : j < xs.length) : okAt xs j = (lockOK xs[j] && !(xs.take j).any (twice xs[j])) := by
  unfold okAt; rw [List.getElem?_eq_getElem h]
noncomputable def locksOK (l : GLocks) : Bool := allIx (okAt l.Held) l.Held.length && ((decide ((l.Held.length : Int) ≤ 60) && decide ((l.Waits.length : Int) ≤ 100)) && !l.Waits.any badWait)
def l06Fit (a b : Int) : Bool := if a = 4 ∨ b = 4 then false else if a = 1 ∨ b = 1 then true else decide (a = b)
theorem fit_eq (a b : Int) : l06Fit a b = modesFit a b := by
  unfold l06Fit modesFit
  by_cases h1 : a = 4 <;> by_cases h2 : b = 4 <;> by_cases h3 : a = 1 <;> by_cases h4 : b = 1 <;> simp [h1, h2, h3, h4]
theorem twice_eq (a b : GLock) : ((decide (a.Table = b.Table) && decide (a.Row = b.Row)) && (eqb a b || (!decide (a.Tx = b.Tx) && !modesFit a.Mode b.Mode))) = twice a b := by
  unfold twice clashes isThing
  cases h : eqb a b with
  | true => have := eqb_iff.1 h; subst this; simp
  | false => cases decide (a.Table = b.Table) <;> cases decide (a.Row = b.Row) <;> cases decide (a.Tx = b.Tx) <;> simp
theorem askEq (a : GLock) : ((((inR a.Tx 1 60 && inR a.Table 1 3) && inR a.Row (-1) 1000) && inR a.Mode 1 4) && (decide (a.Row = -1) || decide (3 ≤ a.Mode))) = lockOK a := by
  unfold lockOK isTx isMode
  cases h : inR a.Row (-1) 1000 with
  | false => simp
  | true =>
    have h1 : decide (a.Row = -1) = decide (a.Row < 0) := by
      unfold inR at h
      rw [Bool.and_eq_true] at h
      have := dT h.1
      exact decide_iff (by omega)
    rw [h1]
theorem locksOK_held {l : GLocks} (h : locksOK l = true) : l.Held.length ≤ 60 ∧ l.Waits.length ≤ 100 := by
  unfold locksOK at h
  simp only [Bool.and_eq_true] at h
  have h1 := dT h.2.1.1
  have h2 := dT h.2.1.2
  omega
noncomputable def freeLocks (l : GLocks) (tx : Int) : GLocks × Int :=
  if locksOK l = false then (.zero, 1) else if isTx tx = false then (.zero, 4) else
  (⟨l.Held.filter (fun x => !decide (x.Tx = tx)), l.Waits.filter (fun x => !(decide (x.Tx = tx) || decide (x.For = tx)))⟩, 0)
def freed (l : GLocks) (tx : Int) : GLocks := ⟨l.Held.filter (fun x => !decide (x.Tx = tx)), l.Waits.filter (fun x => !(decide (x.Tx = tx) || decide (x.For = tx)))⟩
theorem freeLocks_ok {l : GLocks} {tx : Int} (h1 : locksOK l = true) (h2 : isTx tx = true) : freeLocks l tx = (freed l tx, 0) := by
  unfold freeLocks; rw [if_neg (by rw [h1]; simp), if_neg (by rw [h2]; simp)]; rfl
theorem filter_len {α : Type} (p : α → Bool) (xs : List α) : (xs.filter p).length ≤ xs.length := List.length_filter_le p xs
theorem freeLocks_len {l : GLocks} {tx : Int} : (freeLocks l tx).1.Held.length ≤ l.Held.length ∧ (freeLocks l tx).1.Waits.length ≤ l.Waits.length := by
  unfold freeLocks
  split
  · exact ⟨Nat.zero_le _, Nat.zero_le _⟩
  · split
    · exact ⟨Nat.zero_le _, Nat.zero_le _⟩
    · exact ⟨filter_len _ _, filter_len _ _⟩
abbrev GLocks.pO (e e0 e1 : Nat) (l : GLocks) : List (Nat × OB) := (e, .box [.osl e0 4 0 l.Held.length, .osl e1 2 0 l.Waits.length]) :: l.hO e0 e1
/-- One more behind what is filtered. -/
theorem filt_succ {α : Type} {q : α → Bool} {xs : List α} {k : Nat} (h : k < xs.length) (hq : q xs[k] = true) : (xs.take (k + 1)).filter q = (xs.take k).filter q ++ [xs[k]] := by
  rw [take_succ h, List.filter_append]; simp [hq]
theorem filt_same {α : Type} {q : α → Bool} {xs : List α} {k : Nat} (h : k < xs.length) (hq : q xs[k] = false) : (xs.take (k + 1)).filter q = (xs.take k).filter q := by
  rw [take_succ h, List.filter_append]; simp [hq]
theorem filt_le {α : Type} {q : α → Bool} {xs : List α} {k : Nat} : ((xs.take k).filter q).length ≤ xs.length :=
  Nat.le_trans (filter_len _ _) (by rw [List.length_take]; omega)
end Go.AM

/- Plain laws: locks that are taken, waits that lead round. -/
namespace Go.AM
def calm (l : GLocks) (tx : Int) : GLocks := ⟨l.Held, l.Waits.filter (fun w => !decide (w.Tx = tx))⟩
def holdsL (l : GLocks) (x : GLock) : Bool := l.Held.any (fun h => hasL h x)
noncomputable def addW (x : GLock) (ws : List GWait) (h : GLock) : List GWait := if clashes h x && !ws.any (fun s => eqb (⟨x.Tx, h.Tx⟩ : GWait) s) then ws ++ [⟨x.Tx, h.Tx⟩] else ws
noncomputable def clashW (l : GLocks) (x : GLock) (k : Nat) : List GWait := (l.Held.take k).foldl (addW x) []
theorem clashW_succ {l : GLocks} {x : GLock} {k : Nat} (h : k < l.Held.length) : clashW l x (k + 1) = addW x (clashW l x k) l.Held[k] := by
  unfold clashW; rw [take_succ h, List.foldl_append]; rfl
theorem clashW_len {l : GLocks} {x : GLock} : ∀ {k : Nat}, k ≤ l.Held.length → (clashW l x k).length ≤ k
  | 0, _ => by simp [clashW]
  | k + 1, h => by
    rw [clashW_succ (by omega)]
    have ih := clashW_len (l := l) (x := x) (k := k) (by omega)
    unfold addW
    split
    · simp; omega
    · omega

/-! Waits that lead round. -/
noncomputable def scan1 (tx at_ : Int) (r : List Int) (w : GWait) : Option (List Int) :=
  if w.Tx = at_ then (if w.For = tx then none else if r.any (fun s => eqb w.For s) then some r else some (r ++ [w.For])) else some r
noncomputable def scanW (tx at_ : Int) (ws : List GWait) (r : List Int) : Option (List Int) := ws.foldlM (scan1 tx at_) r
theorem scanW_succ {tx at_ : Int} {ws : List GWait} {r : List Int} {k : Nat} (h : k < ws.length) : scanW tx at_ (ws.take (k + 1)) r = (scanW tx at_ (ws.take k) r).bind (fun r' => scan1 tx at_ r' ws[k]) := by
  unfold scanW; rw [take_succ h, List.foldlM_append]
  cases (ws.take k).foldlM (scan1 tx at_) r with
  | none => rfl
  | some r' => simp [List.foldlM]
theorem scanW_none {tx at_ : Int} {ws : List GWait} {r : List Int} {k : Nat} (hn : scanW tx at_ (ws.take (k + 1)) r = none) : scanW tx at_ ws r = none := by
  have e : ws = ws.take (k + 1) ++ ws.drop (k + 1) := (List.take_append_drop _ _).symm
  unfold scanW at *
  rw [e, List.foldlM_append, hn]; rfl
noncomputable def roundF (tx : Int) (ws : List GWait) : Nat → Nat → List Int → Bool
  | 0, _, _ => false
  | f + 1, i, r => match r[i]? with
    | none => false
    | some a => match scanW tx a ws r with
      | none => true
      | some r' => roundF tx ws f (i + 1) r'
noncomputable def roundB (ws : List GWait) (tx : Int) : Bool := roundF tx ws (ws.length + 2) 0 [tx]
/-- What is reached: each once, and by a wait. -/
structure RInv (tx : Int) (ws : List GWait) (r : List Int) : Prop where
  nd : r.Nodup
  mem : ∀ x ∈ r, x ∈ tx :: ws.map GWait.For
theorem nodup_len : ∀ {r m : List Int}, r.Nodup → (∀ x ∈ r, x ∈ m) → r.length ≤ m.length
  | [], m, _, _ => Nat.zero_le _
  | x :: r, m, hn, hm => by
    have h1 := hm x List.mem_cons_self
    have hn' := List.nodup_cons.1 hn
    have ih := nodup_len (r := r) (m := m.erase x) hn'.2 (fun y hy => by
      have h2 := hm y (List.mem_cons_of_mem _ hy)
      exact (List.mem_erase_of_ne (fun h => hn'.1 (by rw [← h]; exact hy))).2 h2)
    have := List.length_erase_of_mem h1
    have : 0 < m.length := List.length_pos_of_mem h1
    simp only [List.length_cons]; omega
theorem RInv.len {tx : Int} {ws : List GWait} {r : List Int} (h : RInv tx ws r) : r.length ≤ ws.length + 1 := by
  have := nodup_len h.nd h.mem; simpa using this
theorem RInv.start (tx : Int) (ws : List GWait) : RInv tx ws [tx] := ⟨by simp, fun x hx => by simp at hx; subst hx; simp⟩
theorem any_mem {r : List Int} {n : Int} : r.any (fun s => eqb n s) = true ↔ n ∈ r := by
  rw [List.any_eq_true]
  constructor
  · rintro ⟨x, h1, h2⟩; rw [eqb_iff] at h2; subst h2; exact h1
  · intro h; exact ⟨n, h, eqb_rfl n⟩
theorem RInv.step {tx a : Int} {ws : List GWait} {r r' : List Int} {k : Nat} (h : RInv tx ws r) (hk : k < ws.length) (hs : scan1 tx a r ws[k] = some r') : RInv tx ws r' ∧ ∃ m, r' = r ++ m := by
  unfold scan1 at hs
  split at hs
  · split at hs
    · cases hs
    · split at hs
      · cases hs; exact ⟨h, [], by simp⟩
      · rename_i h3
        cases hs
        have h4 : ws[k].For ∉ r := fun hm => h3 (any_mem.2 hm)
        refine ⟨⟨List.nodup_append.2 ⟨h.nd, by simp, fun x hx y hy => ?_⟩, fun x hx => ?_⟩, [ws[k].For], rfl⟩
        · rw [List.mem_singleton] at hy; subst hy; exact fun he => h4 (by rw [← he]; exact hx)
        · rcases List.mem_append.1 hx with hx | hx
          · exact h.mem x hx
          · rw [List.mem_singleton] at hx; subst hx
            exact List.mem_cons_of_mem _ (List.mem_map_of_mem (List.getElem_mem hk))
  · cases hs; exact ⟨h, [], by simp⟩
theorem roundF_step {tx : Int} {ws : List GWait} {f i : Nat} {r : List Int} {r' : List Int} (hi : i < r.length) (h : scanW tx r[i] ws r = some r') : roundF tx ws (f + 1) i r = roundF tx ws f (i + 1) r' := by
  rw [roundF, List.getElem?_eq_getElem hi]; simp only [h]
theorem roundF_hit {tx : Int} {ws : List GWait} {f i : Nat} {r : List Int} (hi : i < r.length) (h : scanW tx r[i] ws r = none) : roundF tx ws (f + 1) i r = true := by
  rw [roundF, List.getElem?_eq_getElem hi]; simp only [h]
theorem roundF_end {tx : Int} {ws : List GWait} {f i : Nat} {r : List Int} (hi : r.length ≤ i) : roundF tx ws f i r = false := by
  cases f with
  | zero => rfl
  | succ f => rw [roundF, List.getElem?_eq_none hi]

/-! Taking. -/
noncomputable def takeL (l : GLocks) (x : GLock) : GLocks × Int :=
  let c := calm l x.Tx
  let ws := clashW c x c.Held.length
  if holdsL c x = true then (c, 0)
  else if ws.length = 0 then (if c.Held.length = 60 then (c, 7) else (⟨c.Held ++ [x], c.Waits⟩, 0))
  else if 100 < c.Waits.length + ws.length then (c, 7)
  else if roundB (c.Waits ++ ws) x.Tx = true then (c, 14)
  else (⟨c.Held, c.Waits ++ ws⟩, 13)
noncomputable def takeLock (l : GLocks) (x : GLock) : GLocks × Int :=
  if locksOK l = false then (.zero, 1) else if lockOK x = false then (.zero, 4) else takeL l x
theorem calm_len (l : GLocks) (tx : Int) : (calm l tx).Waits.length ≤ l.Waits.length := filter_len _ _
theorem takeL_len {l : GLocks} {x : GLock} : (takeL l x).1.Held.length ≤ l.Held.length + 1 ∧ (takeL l x).1.Waits.length ≤ l.Waits.length + l.Held.length := by
  have h1 := calm_len l x.Tx
  have h2 := clashW_len (l := calm l x.Tx) (x := x) (k := (calm l x.Tx).Held.length) (Nat.le_refl _)
  have h3 : (calm l x.Tx).Held = l.Held := rfl
  unfold takeL
  dsimp only
  split
  · exact ⟨by dsimp only; rw [h3]; omega, by dsimp only; omega⟩
  · split
    · split
      · exact ⟨by dsimp only; rw [h3]; omega, by dsimp only; omega⟩
      · exact ⟨by simp [h3], by dsimp only; omega⟩
    · split
      · exact ⟨by dsimp only; rw [h3]; omega, by dsimp only; omega⟩
      · split
        · exact ⟨by dsimp only; rw [h3]; omega, by dsimp only; omega⟩
        · exact ⟨by dsimp only; rw [h3]; omega, by simp only [List.length_append]; rw [h3] at h2 ⊢; omega⟩
theorem takeLock_len {l : GLocks} {x : GLock} : (takeLock l x).1.Held.length ≤ l.Held.length + 1 ∧ (takeLock l x).1.Waits.length ≤ l.Waits.length + l.Held.length := by
  unfold takeLock
  split
  · exact ⟨Nat.zero_le _, Nat.zero_le _⟩
  · split
    · exact ⟨Nat.zero_le _, Nat.zero_le _⟩
    · exact takeL_len
section
variable {l : GLocks} {x : GLock}
theorem takeL_1 (h : holdsL (calm l x.Tx) x = true) : takeL l x = (calm l x.Tx, 0) := by unfold takeL; dsimp only; rw [if_pos h]
theorem takeL_2 (h : ¬ holdsL (calm l x.Tx) x = true) (h1 : (clashW (calm l x.Tx) x l.Held.length).length = 0) (h2 : l.Held.length = 60) : takeL l x = (calm l x.Tx, 7) := by
  unfold takeL; dsimp only; rw [if_neg h]
  show (if (clashW (calm l x.Tx) x l.Held.length).length = 0 then if l.Held.length = 60 then _ else _ else _) = _
  rw [if_pos h1, if_pos h2]
theorem takeL_3 (h : ¬ holdsL (calm l x.Tx) x = true) (h1 : (clashW (calm l x.Tx) x l.Held.length).length = 0) (h2 : ¬ l.Held.length = 60) : takeL l x = (⟨l.Held ++ [x], (calm l x.Tx).Waits⟩, 0) := by
  unfold takeL; dsimp only; rw [if_neg h]
  show (if (clashW (calm l x.Tx) x l.Held.length).length = 0 then if l.Held.length = 60 then _ else _ else _) = _
  rw [if_pos h1, if_neg h2]; rfl
theorem takeL_4 (h : ¬ holdsL (calm l x.Tx) x = true) (h1 : ¬ (clashW (calm l x.Tx) x l.Held.length).length = 0) (h2 : 100 < (calm l x.Tx).Waits.length + (clashW (calm l x.Tx) x l.Held.length).length) : takeL l x = (calm l x.Tx, 7) := by
  unfold takeL; dsimp only; rw [if_neg h]
  show (if (clashW (calm l x.Tx) x l.Held.length).length = 0 then _ else if 100 < (calm l x.Tx).Waits.length + (clashW (calm l x.Tx) x l.Held.length).length then _ else _) = _
  rw [if_neg h1, if_pos h2]
theorem takeL_5 (h : ¬ holdsL (calm l x.Tx) x = true) (h1 : ¬ (clashW (calm l x.Tx) x l.Held.length).length = 0) (h2 : ¬ 100 < (calm l x.Tx).Waits.length + (clashW (calm l x.Tx) x l.Held.length).length)
    (h3 : roundB ((calm l x.Tx).Waits ++ clashW (calm l x.Tx) x l.Held.length) x.Tx = true) : takeL l x = (calm l x.Tx, 14) := by
  unfold takeL; dsimp only; rw [if_neg h]
  show (if (clashW (calm l x.Tx) x l.Held.length).length = 0 then _ else if 100 < (calm l x.Tx).Waits.length + (clashW (calm l x.Tx) x l.Held.length).length then _ else if roundB ((calm l x.Tx).Waits ++ clashW (calm l x.Tx) x l.Held.length) x.Tx = true then _ else _) = _
  rw [if_neg h1, if_neg h2, if_pos h3]
theorem takeL_6 (h : ¬ holdsL (calm l x.Tx) x = true) (h1 : ¬ (clashW (calm l x.Tx) x l.Held.length).length = 0) (h2 : ¬ 100 < (calm l x.Tx).Waits.length + (clashW (calm l x.Tx) x l.Held.length).length)
    (h3 : ¬ roundB ((calm l x.Tx).Waits ++ clashW (calm l x.Tx) x l.Held.length) x.Tx = true) : takeL l x = (⟨l.Held, (calm l x.Tx).Waits ++ clashW (calm l x.Tx) x l.Held.length⟩, 13) := by
  unfold takeL; dsimp only; rw [if_neg h]
  show (if (clashW (calm l x.Tx) x l.Held.length).length = 0 then _ else if 100 < (calm l x.Tx).Waits.length + (clashW (calm l x.Tx) x l.Held.length).length then _ else if roundB ((calm l x.Tx).Waits ++ clashW (calm l x.Tx) x l.Held.length) x.Tx = true then _ else _) = _
  rw [if_neg h1, if_neg h2, if_neg h3]; rfl
end
end Go.AM
namespace Go.AM
def covers (a b : Int) : Bool := (decide (a = b) || decide (a = 4)) || decide (b = 1)
theorem covers_eq (h x : GLock) : (((decide (h.Tx = x.Tx) && decide (h.Table = x.Table)) && decide (h.Row = x.Row)) && covers h.Mode x.Mode) = hasL h x := by
  unfold hasL isThing covers
  cases decide (h.Tx = x.Tx) <;> cases decide (h.Table = x.Table) <;> cases decide (h.Row = x.Row) <;> cases decide (h.Mode = x.Mode) <;> cases decide (h.Mode = 4) <;> cases decide (x.Mode = 1) <;> rfl
theorem clash_eq (h x : GLock) : (((!decide (h.Tx = x.Tx) && decide (h.Table = x.Table)) && decide (h.Row = x.Row)) && !modesFit h.Mode x.Mode) = clashes h x := by
  unfold clashes isThing
  cases decide (h.Tx = x.Tx) <;> cases decide (h.Table = x.Table) <;> cases decide (h.Row = x.Row) <;> rfl
theorem eqb_comm {α : Type} (a b : α) : eqb a b = eqb b a := by
  by_cases h : a = b
  · subst h; rfl
  · rw [eqb_f h, eqb_f (fun he => h he.symm)]
theorem deceq {α : Type} [DecidableEq α] (a b : α) : decide (a = b) = eqb b a := by rw [eqb_dec, eqb_comm]
theorem any_take_succ {α : Type} {f : α → Bool} {xs : List α} {j : Nat} (h : j < xs.length) : (xs.take (j + 1)).any f = ((xs.take j).any f || f xs[j]) := by
  rw [take_succ h, List.any_append]; simp
theorem any_full {α : Type} {f : α → Bool} {xs : List α} : (xs.take xs.length).any f = xs.any f := by rw [List.take_length]
theorem scan1_skip {tx a : Int} {r : List Int} {w : GWait} (h : ¬ w.Tx = a) : scan1 tx a r w = some r := by unfold scan1; rw [if_neg h]
theorem scan1_hit {tx a : Int} {r : List Int} {w : GWait} (h : w.Tx = a) (h1 : w.For = tx) : scan1 tx a r w = none := by unfold scan1; rw [if_pos h, if_pos h1]
theorem scan1_old {tx a : Int} {r : List Int} {w : GWait} (h : w.Tx = a) (h1 : ¬ w.For = tx) (h2 : r.any (fun s => eqb w.For s) = true) : scan1 tx a r w = some r := by unfold scan1; rw [if_pos h, if_neg h1, if_pos h2]
theorem scan1_new {tx a : Int} {r : List Int} {w : GWait} (h : w.Tx = a) (h1 : ¬ w.For = tx) (h2 : r.any (fun s => eqb w.For s) = false) : scan1 tx a r w = some (r ++ [w.For]) := by unfold scan1; rw [if_pos h, if_neg h1, if_neg (by rw [h2]; simp)]
theorem app_get {r m : List Int} {i : Nat} (hi : i < r.length) (h : i < (r ++ m).length) : (r ++ m)[i] = r[i] := List.getElem_append_left hi
theorem addW_no {x : GLock} {ws : List GWait} {h : GLock} (hc : clashes h x = false) : addW x ws h = ws := by unfold addW; rw [hc]; rfl
theorem addW_old {x : GLock} {ws : List GWait} {h : GLock} (hw : ws.any (fun s => eqb (⟨x.Tx, h.Tx⟩ : GWait) s) = true) : addW x ws h = ws := by unfold addW; rw [hw]; simp
theorem addW_new {x : GLock} {ws : List GWait} {h : GLock} (hc : clashes h x = true) (hw : ws.any (fun s => eqb (⟨x.Tx, h.Tx⟩ : GWait) s) = false) : addW x ws h = ws ++ [⟨x.Tx, h.Tx⟩] := by unfold addW; rw [hc, hw]; rfl
end Go.AM

/- Plain laws: what locks of a transaction are; comparisons. -/
namespace Go.AM
noncomputable def locksOfTx (l : GLocks) (tx : Int) : List GLock × Int :=
  if locksOK l = false then ([], 1) else if isTx tx = false then ([], 4) else (l.Held.filter (fun h => !(!decide (h.Tx = tx))), 0)
theorem locksOfTx_1 {l : GLocks} {tx : Int} (h : locksOK l = false) : locksOfTx l tx = ([], 1) := by unfold locksOfTx; rw [if_pos h]
theorem locksOfTx_2 {l : GLocks} {tx : Int} (h : locksOK l = true) (h1 : isTx tx = false) : locksOfTx l tx = ([], 4) := by unfold locksOfTx; rw [if_neg (by rw [h]; simp), if_pos h1]
theorem locksOfTx_3 {l : GLocks} {tx : Int} (h : locksOK l = true) (h1 : isTx tx = true) : locksOfTx l tx = (l.Held.filter (fun h => !(!decide (h.Tx = tx))), 0) := by unfold locksOfTx; rw [if_neg (by rw [h]; simp), if_neg (by rw [h1]; simp)]
noncomputable def roundL (l : GLocks) (tx : Int) : Bool × Int := if locksOK l = false then (false, 1) else if isTx tx = false then (false, 4) else (roundB l.Waits tx, 0)
theorem roundL_1 {l : GLocks} {tx : Int} (h : locksOK l = false) : roundL l tx = (false, 1) := by unfold roundL; rw [if_pos h]
theorem roundL_2 {l : GLocks} {tx : Int} (h : locksOK l = true) (h1 : isTx tx = false) : roundL l tx = (false, 4) := by unfold roundL; rw [if_neg (by rw [h]; simp), if_pos h1]
theorem roundL_3 {l : GLocks} {tx : Int} (h : locksOK l = true) (h1 : isTx tx = true) : roundL l tx = (roundB l.Waits tx, 0) := by unfold roundL; rw [if_neg (by rw [h]; simp), if_neg (by rw [h1]; simp)]
noncomputable def holdsLock (l : GLocks) (x : GLock) : Bool × Int := if locksOK l = false then (false, 1) else if lockOK x = false then (false, 4) else (holdsL l x, 0)
theorem holdsLock_1 {l : GLocks} {x : GLock} (h : locksOK l = false) : holdsLock l x = (false, 1) := by unfold holdsLock; rw [if_pos h]
theorem holdsLock_2 {l : GLocks} {x : GLock} (h : locksOK l = true) (h1 : lockOK x = false) : holdsLock l x = (false, 4) := by unfold holdsLock; rw [if_neg (by rw [h]; simp), if_pos h1]
theorem holdsLock_3 {l : GLocks} {x : GLock} (h : locksOK l = true) (h1 : lockOK x = true) : holdsLock l x = (holdsL l x, 0) := by unfold holdsLock; rw [if_neg (by rw [h]; simp), if_neg (by rw [h1]; simp)]
theorem takeLock_ok {l : GLocks} {x : GLock} (h : locksOK l = true) (h1 : lockOK x = true) : takeLock l x = takeL l x := by unfold takeLock; rw [if_neg (by rw [h]; simp), if_neg (by rw [h1]; simp)]
theorem drop_take_zero {r : List Int} {i s : Nat} {rs : List (List D)} (hi : i < r.length) (h : (rs.drop s).take (r.length - i) = (r.drop i).map intRow) : rs[s]? = some (intRow r[i]) := by
  have : ((rs.drop s).take (r.length - i))[0]? = some (intRow r[i]) := by rw [h, List.getElem?_map, List.getElem?_drop, Nat.add_zero, List.getElem?_eq_getElem hi]; rfl
  rw [List.getElem?_take, if_pos (by omega), List.getElem?_drop, Nat.add_zero] at this
  exact this
theorem drop_take_next {r : List Int} {i s : Nat} {rs : List (List D)} (h : (rs.drop s).take (r.length - i) = (r.drop i).map intRow) : (rs.drop (s + 1)).take (r.length - (i + 1)) = (r.drop (i + 1)).map intRow := by
  have e : ((rs.drop s).take (r.length - i)).drop 1 = ((r.drop i).map intRow).drop 1 := by rw [h]
  rw [List.drop_take, List.drop_drop, ← List.map_drop, List.drop_drop] at e
  rw [show r.length - (i + 1) = r.length - i - 1 from by omega]; exact e
theorem drop_app {r : List Int} {i : Nat} {n : Int} (hi : i ≤ r.length) : (r.drop i).map intRow ++ [intRow n] = ((r ++ [n]).drop i).map intRow := by
  rw [List.drop_append_of_le_length hi, List.map_append]; rfl
theorem tail_any {tx : Int} {t : List Int} {n : Int} (h : n ≠ tx) : (tx :: t).any (fun s => eqb n s) = t.any (fun s => eqb n s) := by
  rw [List.any_cons, eqb_f h, Bool.false_or]
theorem not_tail {tx : Int} {t : List Int} {ws : List GWait} (h : RInv tx ws (tx :: t)) : t.any (fun s => eqb tx s) = false := by
  cases hh : t.any (fun s => eqb tx s) with
  | false => rfl
  | true => exact absurd (any_mem.1 hh) (List.nodup_cons.1 h.nd).1
end Go.AM

/- Plain laws: locks that are right stay right. -/
namespace Go.AM
theorem allIx_iff {p : Nat → Bool} {n : Nat} : allIx p n = true ↔ ∀ j, j < n → p j = true := by
  constructor
  · exact fun h j hj => allIx_get h hj
  · intro h
    cases hh : allIx p n with
    | true => rfl
    | false =>
      exfalso
      have key : ∀ m, m ≤ n → allIx p m = true := by
        intro m
        induction m with
        | zero => intro _; rfl
        | succ m ih => intro hm; exact allIx_step (ih (by omega)) (h m (by omega))
      rw [key n (Nat.le_refl _)] at hh; cases hh
theorem any_false {α : Type} {f : α → Bool} {xs : List α} (h : ∀ x ∈ xs, f x = false) : xs.any f = false := by
  cases hh : xs.any f with
  | false => rfl
  | true =>
    obtain ⟨x, h1, h2⟩ := List.any_eq_true.1 hh
    rw [h x h1] at h2; cases h2
theorem of_any_false {α : Type} {f : α → Bool} {xs : List α} (h : xs.any f = false) : ∀ x ∈ xs, f x = false := fun x hx => by
  cases hh : f x with
  | false => rfl
  | true => rw [List.any_eq_true.2 ⟨x, hx, hh⟩] at h; cases h
theorem held_iff {xs : List GLock} : allIx (okAt xs) xs.length = true ↔ (∀ a ∈ xs, lockOK a = true) ∧ xs.Pairwise (fun b a => twice a b = false) := by
  rw [allIx_iff, List.pairwise_iff_getElem]
  constructor
  · intro h
    have h' : ∀ j (hj : j < xs.length), lockOK xs[j] = true ∧ ∀ i (_ : i < j), twice xs[j] xs[i] = false := fun j hj => by
      have := h j hj
      rw [okAt_get hj, Bool.and_eq_true] at this
      refine ⟨this.1, fun i hi => ?_⟩
      have h2 := bT this.2
      exact of_any_false h2 _ (List.mem_iff_getElem.2 ⟨i, by simp; omega, by simp⟩)
    refine ⟨fun a ha => ?_, fun i j hi hj hij => (h' j hj).2 i hij⟩
    obtain ⟨j, hj, rfl⟩ := List.mem_iff_getElem.1 ha
    exact (h' j hj).1
  · rintro ⟨h1, h2⟩ j hj
    rw [okAt_get hj, h1 _ (List.getElem_mem hj), any_false]
    · rfl
    · intro x hx
      obtain ⟨i, hi, rfl⟩ := List.mem_iff_getElem.1 hx
      have hi' : i < j := by simp at hi; omega
      rw [List.getElem_take]
      exact h2 i j (by omega) hj hi'
theorem locksOK_iff {l : GLocks} : locksOK l = true ↔ (∀ a ∈ l.Held, lockOK a = true) ∧ l.Held.Pairwise (fun b a => twice a b = false) ∧ l.Held.length ≤ 60 ∧ l.Waits.length ≤ 100 ∧ ∀ w ∈ l.Waits, badWait w = false := by
  unfold locksOK
  rw [Bool.and_eq_true, Bool.and_eq_true, Bool.and_eq_true, held_iff]
  constructor
  · rintro ⟨⟨h1, h2⟩, ⟨h3, h4⟩, h5⟩
    have h3 := dT h3
    have h4 := dT h4
    exact ⟨h1, h2, by omega, by omega, of_any_false (bT h5)⟩
  · rintro ⟨h1, h2, h3, h4, h5⟩
    exact ⟨⟨h1, h2⟩, ⟨decide_eq_true (by omega), decide_eq_true (by omega)⟩, by rw [any_false h5]; rfl⟩
theorem lock_bounds {a : GLock} (h : lockOK a = true) : 1 ≤ a.Tx ∧ a.Tx ≤ 60 ∧ 1 ≤ a.Table ∧ a.Table ≤ 3 ∧ -1 ≤ a.Row ∧ a.Row ≤ 1000 ∧ 1 ≤ a.Mode ∧ a.Mode ≤ 4 ∧ (a.Row < 0 ∨ 3 ≤ a.Mode) := by
  unfold lockOK isTx isMode inR at h
  simp only [Bool.and_eq_true, Bool.or_eq_true, decide_eq_true_eq] at h
  omega
theorem lockOK_mk {a : GLock} (h : 1 ≤ a.Tx ∧ a.Tx ≤ 60 ∧ 1 ≤ a.Table ∧ a.Table ≤ 3 ∧ -1 ≤ a.Row ∧ a.Row ≤ 1000 ∧ 1 ≤ a.Mode ∧ a.Mode ≤ 4 ∧ (a.Row < 0 ∨ 3 ≤ a.Mode)) : lockOK a = true := by
  unfold lockOK isTx isMode inR
  simp only [Bool.and_eq_true, Bool.or_eq_true, decide_eq_true_eq]
  omega
theorem lockOK_mk4 {a b c d : Int} (h1 : 1 ≤ a ∧ a ≤ 60) (h2 : 1 ≤ b ∧ b ≤ 3) (h3 : -1 ≤ c ∧ c ≤ 1000) (h4 : 1 ≤ d ∧ d ≤ 4) (h5 : c < 0 ∨ 3 ≤ d) : lockOK ⟨a, b, c, d⟩ = true := lockOK_mk (show 1 ≤ a ∧ a ≤ 60 ∧ 1 ≤ b ∧ b ≤ 3 ∧ -1 ≤ c ∧ c ≤ 1000 ∧ 1 ≤ d ∧ d ≤ 4 ∧ (c < 0 ∨ 3 ≤ d) from ⟨h1.1, h1.2, h2.1, h2.2, h3.1, h3.2, h4.1, h4.2, h5⟩)
theorem locksOK_wf {l : GLocks} (h : locksOK l = true) : wfL GLock.wf l.Held := by
  obtain ⟨h1, _, h3, _⟩ := locksOK_iff.1 h
  refine ⟨by omega, fun a ha => ?_⟩
  have := lock_bounds (h1 a ha)
  unfold GLock.wf wfInt
  omega
theorem locksOK_nil : locksOK ⟨[], []⟩ = true := locksOK_iff.2 ⟨by simp, by simp, by simp, by simp, by simp⟩
theorem freed_ok {l : GLocks} {tx : Int} (h : locksOK l = true) : locksOK (freed l tx) = true := by
  obtain ⟨h1, h2, h3, h4, h5⟩ := locksOK_iff.1 h
  refine locksOK_iff.2 ⟨fun a ha => h1 a (List.mem_filter.1 ha).1, h2.filter _, Nat.le_trans (filter_len _ _) h3, Nat.le_trans (filter_len _ _) h4, fun w hw => h5 w (List.mem_filter.1 hw).1⟩
theorem calm_ok {l : GLocks} {tx : Int} (h : locksOK l = true) : locksOK (calm l tx) = true := by
  obtain ⟨h1, h2, h3, h4, h5⟩ := locksOK_iff.1 h
  exact locksOK_iff.2 ⟨h1, h2, h3, Nat.le_trans (filter_len _ _) h4, fun w hw => h5 w (List.mem_filter.1 hw).1⟩
theorem addW_len {x : GLock} {ws : List GWait} {h : GLock} : ws.length ≤ (addW x ws h).length := by
  unfold addW
  split
  · simp
  · exact Nat.le_refl _
theorem clashW_zero {l : GLocks} {x : GLock} : ∀ {k : Nat}, k ≤ l.Held.length → (clashW l x k).length = 0 → ∀ j (_ : j < k) (hl : j < l.Held.length), clashes l.Held[j] x = false
  | 0, _, _, j, hj, _ => by omega
  | k + 1, hk, hz, j, hj, hl => by
    rw [clashW_succ (by omega)] at hz
    have h0 : (clashW l x k).length = 0 := by have := @addW_len x (clashW l x k) l.Held[k]; omega
    rcases Nat.lt_or_ge j k with h | h
    · exact clashW_zero (by omega) h0 j h hl
    · have : j = k := by omega
      subst this
      cases hc : clashes l.Held[j] x with
      | false => rfl
      | true =>
        have hn : clashW l x j = [] := List.eq_nil_of_length_eq_zero h0
        rw [addW_new hc (by rw [hn]; rfl)] at hz
        simp at hz
theorem clashW_mem {l : GLocks} {x : GLock} : ∀ {k : Nat}, k ≤ l.Held.length → ∀ w ∈ clashW l x k, ∃ h ∈ l.Held, clashes h x = true ∧ w = ⟨x.Tx, h.Tx⟩
  | 0, _, w, hw => by simp [clashW] at hw
  | k + 1, hk, w, hw => by
    rw [clashW_succ (by omega)] at hw
    unfold addW at hw
    split at hw
    · rename_i hc
      rw [Bool.and_eq_true] at hc
      rcases List.mem_append.1 hw with hw | hw
      · exact clashW_mem (by omega) w hw
      · rw [List.mem_singleton] at hw
        exact ⟨_, List.getElem_mem (by omega), hc.1, hw⟩
    · exact clashW_mem (by omega) w hw
theorem fit_comm (a b : Int) : modesFit a b = modesFit b a := by
  unfold modesFit
  rw [show decide (a = b) = decide (b = a) from decide_iff eq_comm]
  cases decide (a = 4) <;> cases decide (b = 4) <;> cases decide (a = 1) <;> cases decide (b = 1) <;> rfl
theorem clash_comm (a b : GLock) : clashes a b = clashes b a := by
  unfold clashes isThing
  rw [fit_comm a.Mode b.Mode, show decide (a.Tx = b.Tx) = decide (b.Tx = a.Tx) from decide_iff eq_comm, show decide (a.Table = b.Table) = decide (b.Table = a.Table) from decide_iff eq_comm, show decide (a.Row = b.Row) = decide (b.Row = a.Row) from decide_iff eq_comm]
theorem hasL_self (x : GLock) : hasL x x = true := by unfold hasL isThing; simp
theorem clash_tx {h x : GLock} (hc : clashes h x = true) : h.Tx ≠ x.Tx := by
  unfold clashes at hc
  simp only [Bool.and_eq_true] at hc
  exact nT hc.1.1
theorem takeL_ok {l : GLocks} {x : GLock} (h : locksOK l = true) (hx : lockOK x = true) : locksOK (takeL l x).1 = true := by
  have hc := calm_ok (tx := x.Tx) h
  obtain ⟨h1, h2, h3, h4, h5⟩ := locksOK_iff.1 hc
  by_cases a0 : holdsL (calm l x.Tx) x = true
  · rw [takeL_1 a0]; exact hc
  · have hz0 : ∀ b ∈ l.Held, hasL b x = false := by
      refine of_any_false (xs := l.Held) (f := fun h => hasL h x) ?_
      cases hh : l.Held.any (fun h => hasL h x) with
      | false => rfl
      | true => exact absurd hh a0
    by_cases a1 : (clashW (calm l x.Tx) x l.Held.length).length = 0
    · by_cases a2 : l.Held.length = 60
      · rw [takeL_2 a0 a1 a2]; exact hc
      · rw [takeL_3 a0 a1 a2]
        have hz := clashW_zero (l := calm l x.Tx) (Nat.le_refl _) a1
        refine locksOK_iff.2 ⟨fun a ha => ?_, List.pairwise_append.2 ⟨h2, by simp, fun b hb a ha => ?_⟩, ?_, h4, h5⟩
        · rcases List.mem_append.1 ha with ha | ha
          · exact h1 a ha
          · rw [List.mem_singleton] at ha; subst ha; exact hx
        · rw [List.mem_singleton] at ha; subst ha
          have hcl : clashes a b = false := by
            obtain ⟨j, hj, rfl⟩ := List.mem_iff_getElem.1 hb
            rw [clash_comm]; exact hz j hj hj
          unfold twice
          rw [hcl, Bool.or_false]
          refine eqb_f fun he => ?_
          subst he
          have := hz0 a hb
          rw [hasL_self] at this; cases this
        · have : l.Held.length ≤ 60 := h3
          simp only [List.length_append, List.length_singleton]; omega
    · by_cases a3 : 100 < (calm l x.Tx).Waits.length + (clashW (calm l x.Tx) x l.Held.length).length
      · rw [takeL_4 a0 a1 a3]; exact hc
      · by_cases a4 : roundB ((calm l x.Tx).Waits ++ clashW (calm l x.Tx) x l.Held.length) x.Tx = true
        · rw [takeL_5 a0 a1 a3 a4]; exact hc
        · rw [takeL_6 a0 a1 a3 a4]
          refine locksOK_iff.2 ⟨h1, h2, h3, by simp only [List.length_append]; omega, fun w hw => ?_⟩
          rcases List.mem_append.1 hw with hw | hw
          · exact h5 w hw
          · obtain ⟨b, hb, hcl, rfl⟩ := clashW_mem (l := calm l x.Tx) (Nat.le_refl _) w hw
            have b1 := lock_bounds hx
            have b2 := lock_bounds (h1 b hb)
            have b3 := clash_tx hcl
            unfold badWait isTx inR
            simp only [Bool.or_eq_false_iff, Bool.not_eq_false', Bool.and_eq_true, decide_eq_true_eq, decide_eq_false_iff_not]
            omega
theorem isTx_mk {n : Int} (h : 1 ≤ n ∧ n ≤ 60) : isTx n = true := by unfold isTx inR; simp; omega
theorem freed_none {l : GLocks} {tx : Int} : (freed l tx).Held.filter (fun h => !(!decide (h.Tx = tx))) = [] := by
  rw [List.filter_eq_nil_iff]
  intro a ha
  have := (List.mem_filter.1 ha).2
  simpa using this
theorem freed_again {l : GLocks} {tx : Int} : freed (freed l tx) tx = freed l tx := by
  unfold freed
  simp
theorem freed_wait {l : GLocks} {tx : Int} {w : GWait} (h : w ∈ (freed l tx).Waits) : ¬ w.Tx = tx ∧ ¬ w.For = tx := by
  have := (List.mem_filter.1 h).2
  simpa using this
end Go.AM

/- Twins of the definitions that a kernel can compute. -/
namespace Go.AM
set_option linter.unusedSimpArgs false
deriving instance DecidableEq for GLock
deriving instance DecidableEq for GWait
theorem eqb_int : @eqb Int = fun a b => decide (a = b) := by funext a b; by_cases h : a = b <;> simp [eqb_t, eqb_f, h]
theorem eqb_wait : @eqb GWait = fun a b => decide (a = b) := by funext a b; by_cases h : a = b <;> simp [eqb_t, eqb_f, h]
theorem eqb_lock : @eqb GLock = fun a b => decide (a = b) := by funext a b; by_cases h : a = b <;> simp [eqb_t, eqb_f, h]
def twiceC (a b : GLock) : Bool := decide (a = b) || clashes a b
theorem twice_C : @twice = @twiceC := by
  unfold twice twiceC
  first | (simp only [eqb_int, eqb_wait, eqb_lock]; done) | (simp only [eqb_int, eqb_wait, eqb_lock]; rfl) | rfl

def okAtC (xs : List GLock) (j : Nat) : Bool := match xs[j]? with
  | some a => lockOK a && !(xs.take j).any (twiceC a)
  | none => true
theorem okAt_C : @okAt = @okAtC := by
  unfold okAt okAtC
  first | (simp only [eqb_int, eqb_wait, eqb_lock, twice_C]; done) | (simp only [eqb_int, eqb_wait, eqb_lock, twice_C]; rfl) | rfl

def locksOKC (l : GLocks) : Bool := allIx (okAtC l.Held) l.Held.length && ((decide ((l.Held.length : Int) ≤ 60) && decide ((l.Waits.length : Int) ≤ 100)) && !l.Waits.any badWait)
theorem locksOK_C : @locksOK = @locksOKC := by
  unfold locksOK locksOKC
  first | (simp only [eqb_int, eqb_wait, eqb_lock, twice_C, okAt_C]; done) | (simp only [eqb_int, eqb_wait, eqb_lock, twice_C, okAt_C]; rfl) | rfl

def addWC (x : GLock) (ws : List GWait) (h : GLock) : List GWait := if clashes h x && !ws.any (fun s => decide ((⟨x.Tx, h.Tx⟩ : GWait) = s)) then ws ++ [⟨x.Tx, h.Tx⟩] else ws
theorem addW_C : @addW = @addWC := by
  unfold addW addWC
  first | (simp only [eqb_int, eqb_wait, eqb_lock, twice_C, okAt_C, locksOK_C]; done) | (simp only [eqb_int, eqb_wait, eqb_lock, twice_C, okAt_C, locksOK_C]; rfl) | rfl

def clashWC (l : GLocks) (x : GLock) (k : Nat) : List GWait := (l.Held.take k).foldl (addWC x) []
theorem clashW_C : @clashW = @clashWC := by
  unfold clashW clashWC
  first | (simp only [eqb_int, eqb_wait, eqb_lock, twice_C, okAt_C, locksOK_C, addW_C]; done) | (simp only [eqb_int, eqb_wait, eqb_lock, twice_C, okAt_C, locksOK_C, addW_C]; rfl) | rfl

def scan1C (tx at_ : Int) (r : List Int) (w : GWait) : Option (List Int) :=
  if w.Tx = at_ then (if w.For = tx then none else if r.any (fun s => decide (w.For = s)) then some r else some (r ++ [w.For])) else some r
theorem scan1_C : @scan1 = @scan1C := by
  unfold scan1 scan1C
  first | (simp only [eqb_int, eqb_wait, eqb_lock, twice_C, okAt_C, locksOK_C, addW_C, clashW_C]; done) | (simp only [eqb_int, eqb_wait, eqb_lock, twice_C, okAt_C, locksOK_C, addW_C, clashW_C]; rfl) | rfl

def scanWC (tx at_ : Int) (ws : List GWait) (r : List Int) : Option (List Int) := ws.foldlM (scan1C tx at_) r
theorem scanW_C : @scanW = @scanWC := by
  unfold scanW scanWC
  first | (simp only [eqb_int, eqb_wait, eqb_lock, twice_C, okAt_C, locksOK_C, addW_C, clashW_C, scan1_C]; done) | (simp only [eqb_int, eqb_wait, eqb_lock, twice_C, okAt_C, locksOK_C, addW_C, clashW_C, scan1_C]; rfl) | rfl

def roundFC (tx : Int) (ws : List GWait) : Nat → Nat → List Int → Bool
  | 0, _, _ => false
  | f + 1, i, r => match r[i]? with
    | none => false
    | some a => match scanWC tx a ws r with
      | none => true
      | some r' => roundFC tx ws f (i + 1) r'
theorem roundF_C : @roundF = @roundFC := by
  funext tx ws f
  induction f with
  | zero => rfl
  | succ f ih =>
    funext i r
    first | (simp only [roundF, roundFC, scanW_C, ih]; done) | (simp only [roundF, roundFC, scanW_C, ih]; rfl)
def roundBC (ws : List GWait) (tx : Int) : Bool := roundFC tx ws (ws.length + 2) 0 [tx]
theorem roundB_C : @roundB = @roundBC := by
  unfold roundB roundBC
  first | (simp only [eqb_int, eqb_wait, eqb_lock, twice_C, okAt_C, locksOK_C, addW_C, clashW_C, scan1_C, scanW_C, roundF_C]; done) | (simp only [eqb_int, eqb_wait, eqb_lock, twice_C, okAt_C, locksOK_C, addW_C, clashW_C, scan1_C, scanW_C, roundF_C]; rfl) | rfl

def takeLC (l : GLocks) (x : GLock) : GLocks × Int :=
  let c := calm l x.Tx
  let ws := clashWC c x c.Held.length
  if holdsL c x = true then (c, 0)
  else if ws.length = 0 then (if c.Held.length = 60 then (c, 7) else (⟨c.Held ++ [x], c.Waits⟩, 0))
  else if 100 < c.Waits.length + ws.length then (c, 7)
  else if roundBC (c.Waits ++ ws) x.Tx = true then (c, 14)
  else (⟨c.Held, c.Waits ++ ws⟩, 13)
theorem takeL_C : @takeL = @takeLC := by
  unfold takeL takeLC
  first | (simp only [eqb_int, eqb_wait, eqb_lock, twice_C, okAt_C, locksOK_C, addW_C, clashW_C, scan1_C, scanW_C, roundF_C, roundB_C]; done) | (simp only [eqb_int, eqb_wait, eqb_lock, twice_C, okAt_C, locksOK_C, addW_C, clashW_C, scan1_C, scanW_C, roundF_C, roundB_C]; rfl) | rfl

def takeLockC (l : GLocks) (x : GLock) : GLocks × Int :=
  if locksOKC l = false then (.zero, 1) else if lockOK x = false then (.zero, 4) else takeLC l x
theorem takeLock_C : @takeLock = @takeLockC := by
  unfold takeLock takeLockC
  first | (simp only [eqb_int, eqb_wait, eqb_lock, twice_C, okAt_C, locksOK_C, addW_C, clashW_C, scan1_C, scanW_C, roundF_C, roundB_C, takeL_C]; done) | (simp only [eqb_int, eqb_wait, eqb_lock, twice_C, okAt_C, locksOK_C, addW_C, clashW_C, scan1_C, scanW_C, roundF_C, roundB_C, takeL_C]; rfl) | rfl

def freeLocksC (l : GLocks) (tx : Int) : GLocks × Int :=
  if locksOKC l = false then (.zero, 1) else if isTx tx = false then (.zero, 4) else
  (⟨l.Held.filter (fun x => !decide (x.Tx = tx)), l.Waits.filter (fun x => !(decide (x.Tx = tx) || decide (x.For = tx)))⟩, 0)
theorem freeLocks_C : @freeLocks = @freeLocksC := by
  unfold freeLocks freeLocksC
  first | (simp only [eqb_int, eqb_wait, eqb_lock, twice_C, okAt_C, locksOK_C, addW_C, clashW_C, scan1_C, scanW_C, roundF_C, roundB_C, takeL_C, takeLock_C]; done) | (simp only [eqb_int, eqb_wait, eqb_lock, twice_C, okAt_C, locksOK_C, addW_C, clashW_C, scan1_C, scanW_C, roundF_C, roundB_C, takeL_C, takeLock_C]; rfl) | rfl

def roundLC (l : GLocks) (tx : Int) : Bool × Int := if locksOKC l = false then (false, 1) else if isTx tx = false then (false, 4) else (roundBC l.Waits tx, 0)
theorem roundL_C : @roundL = @roundLC := by
  unfold roundL roundLC
  first | (simp only [eqb_int, eqb_wait, eqb_lock, twice_C, okAt_C, locksOK_C, addW_C, clashW_C, scan1_C, scanW_C, roundF_C, roundB_C, takeL_C, takeLock_C, freeLocks_C]; done) | (simp only [eqb_int, eqb_wait, eqb_lock, twice_C, okAt_C, locksOK_C, addW_C, clashW_C, scan1_C, scanW_C, roundF_C, roundB_C, takeL_C, takeLock_C, freeLocks_C]; rfl) | rfl

def holdsLockC (l : GLocks) (x : GLock) : Bool × Int := if locksOKC l = false then (false, 1) else if lockOK x = false then (false, 4) else (holdsL l x, 0)
theorem holdsLock_C : @holdsLock = @holdsLockC := by
  unfold holdsLock holdsLockC
  first | (simp only [eqb_int, eqb_wait, eqb_lock, twice_C, okAt_C, locksOK_C, addW_C, clashW_C, scan1_C, scanW_C, roundF_C, roundB_C, takeL_C, takeLock_C, freeLocks_C, roundL_C]; done) | (simp only [eqb_int, eqb_wait, eqb_lock, twice_C, okAt_C, locksOK_C, addW_C, clashW_C, scan1_C, scanW_C, roundF_C, roundB_C, takeL_C, takeLock_C, freeLocks_C, roundL_C]; rfl) | rfl

noncomputable def st0 (T : Int) : Nat → GLocks
  | 0 => ⟨[], []⟩
  | i + 1 => (takeLock (st0 T i) ⟨1 + i, T, i, 4⟩).1
noncomputable def st1 (T : Int) (n : Nat) : Nat → GLocks
  | 0 => st0 T n
  | i + 1 => (takeLock (st1 T n i) ⟨1 + i, T, i + 1, 3⟩).1
def st0C (T : Int) : Nat → GLocks
  | 0 => ⟨[], []⟩
  | i + 1 => (takeLockC (st0C T i) ⟨1 + i, T, i, 4⟩).1
def st1C (T : Int) (n : Nat) : Nat → GLocks
  | 0 => st0C T n
  | i + 1 => (takeLockC (st1C T n i) ⟨1 + i, T, i + 1, 3⟩).1
theorem st0_C : @st0 = @st0C := by
  funext T i
  induction i with
  | zero => rfl
  | succ i ih => rw [st0, st0C, takeLock_C, ih]
theorem st1_C : @st1 = @st1C := by
  funext T n i
  induction i with
  | zero => rw [st1, st1C, st0_C]
  | succ i ih => rw [st1, st1C, takeLock_C, ih]
noncomputable def lastL (T : Int) (n : Nat) : GLocks × Int := takeLock (st1 T n (n - 1)) ⟨n, T, 0, 3⟩
noncomputable def lastF (T : Int) (n : Nat) : GLocks × Int := freeLocks (lastL T n).1 n
noncomputable def lastG (T : Int) (n : Nat) : GLocks × Int := takeLock (lastF T n).1 ⟨(n : Int) - 1, T, (n : Int) - 1, 3⟩
def lastLC (T : Int) (n : Nat) : GLocks × Int := takeLockC (st1C T n (n - 1)) ⟨n, T, 0, 3⟩
def lastFC (T : Int) (n : Nat) : GLocks × Int := freeLocksC (lastLC T n).1 n
def lastGC (T : Int) (n : Nat) : GLocks × Int := takeLockC (lastFC T n).1 ⟨(n : Int) - 1, T, (n : Int) - 1, 3⟩
theorem lastL_C : @lastL = @lastLC := by unfold lastL lastLC; rw [takeLock_C, st1_C]
theorem lastF_C : @lastF = @lastFC := by unfold lastF lastFC; rw [freeLocks_C, lastL_C]
theorem lastG_C : @lastG = @lastGC := by unfold lastG lastGC; rw [takeLock_C, lastF_C]
def deadC (T : Int) (n : Nat) : Bool :=
  (List.range (n + 1)).all (fun i => locksOKC (st0C T i) && locksOKC (st1C T n i)) &&
  ((List.range n).all (fun i => decide ((takeLockC (st0C T i) ⟨1 + i, T, i, 4⟩).2 = 0)) &&
  ((List.range (n - 1)).all (fun i => decide ((takeLockC (st1C T n i) ⟨1 + i, T, i + 1, 3⟩).2 = 13)) &&
  (locksOKC (lastLC T n).1 && (decide ((lastLC T n).2 = 14) && (decide (roundLC (lastLC T n).1 n = (false, 0)) &&
  (decide ((lastFC T n).2 = 0) && (locksOKC (lastFC T n).1 &&
  (decide ((lastGC T n).2 = 0) && (locksOKC (lastGC T n).1 &&
  decide (holdsLockC (lastGC T n).1 ⟨(n : Int) - 1, T, (n : Int) - 1, 3⟩ = (true, 0)))))))))))
theorem dead_all : ([1, 2, 3] : List Int).all (fun T => ([2, 3, 4, 5] : List Nat).all (fun n => deadC T n)) = true := by decide +kernel
theorem dead_C {T : Int} {n : Nat} (hT : 1 ≤ T ∧ T ≤ 3) (hn : 2 ≤ n ∧ n ≤ 5) : deadC T n = true := by
  have h := List.all_eq_true.1 dead_all T (by
    rcases (show T = 1 ∨ T = 2 ∨ T = 3 from by omega) with h | h | h <;> subst h <;> decide)
  exact List.all_eq_true.1 h n (by
    rcases (show n = 2 ∨ n = 3 ∨ n = 4 ∨ n = 5 from by omega) with h | h | h | h <;> subst h <;> decide)
theorem dead_facts {T : Int} {n : Nat} (hT : 1 ≤ T ∧ T ≤ 3) (hn : 2 ≤ n ∧ n ≤ 5) :
    (∀ i, i < n + 1 → locksOK (st0 T i) = true ∧ locksOK (st1 T n i) = true) ∧
    (∀ i : Nat, i < n → (takeLock (st0 T i) ⟨1 + i, T, i, 4⟩).2 = 0) ∧
    (∀ i : Nat, i < n - 1 → (takeLock (st1 T n i) ⟨1 + i, T, i + 1, 3⟩).2 = 13) ∧
    locksOK (lastL T n).1 = true ∧ (lastL T n).2 = 14 ∧ roundL (lastL T n).1 n = (false, 0) ∧
    (lastF T n).2 = 0 ∧ locksOK (lastF T n).1 = true ∧ (lastG T n).2 = 0 ∧ locksOK (lastG T n).1 = true ∧
    holdsLock (lastG T n).1 ⟨(n : Int) - 1, T, (n : Int) - 1, 3⟩ = (true, 0) := by
  rw [st0_C, st1_C, takeLock_C, lastL_C, lastF_C, lastG_C, roundL_C, holdsLock_C, locksOK_C]
  have h := dead_C hT hn
  unfold deadC at h
  simp only [Bool.and_eq_true, List.all_eq_true, List.mem_range] at h
  obtain ⟨h1, h2, h3, h4, h5, h6, h7, h8, h9, h10, h11⟩ := h
  exact ⟨h1, fun i hi => of_decide_eq_true (h2 i hi), fun i hi => of_decide_eq_true (h3 i hi), h4, of_decide_eq_true h5, of_decide_eq_true h6, of_decide_eq_true h7, h8, of_decide_eq_true h9, h10, of_decide_eq_true h11⟩
end Go.AM

/- Plain laws: what holds behind a request. -/
namespace Go.AM
theorem roundB_calm {ws : List GWait} {tx : Int} (h : ∀ w ∈ ws, w.Tx ≠ tx) : roundB ws tx = false := by
  have hs : ∀ (us : List GWait), (∀ w ∈ us, w.Tx ≠ tx) → scanW tx tx us [tx] = some [tx] := by
    intro us
    induction us with
    | nil => intro _; rfl
    | cons u us ih =>
      intro hu
      unfold scanW
      rw [List.foldlM_cons]
      have : scan1 tx tx [tx] u = some [tx] := by unfold scan1; rw [if_neg (hu u (by simp))]
      rw [this]
      exact ih (fun w hw => hu w (by simp [hw]))
  unfold roundB
  rw [roundF]
  simp only [List.getElem?_cons_zero, hs ws h]
  rw [roundF]
  rfl
theorem calm_no {l : GLocks} {tx : Int} : ∀ w ∈ (calm l tx).Waits, w.Tx ≠ tx := fun w hw => by
  have := (List.mem_filter.1 hw).2
  simpa using this
theorem holds_app {l : GLocks} {x : GLock} {ws : List GWait} : holdsL ⟨l.Held ++ [x], ws⟩ x = true := by
  unfold holdsL
  rw [List.any_append]
  simp [hasL_self]
theorem takeL_holds {l : GLocks} {x : GLock} : holdsL (takeL l x).1 x = decide ((takeL l x).2 = 0) := by
  by_cases a0 : holdsL (calm l x.Tx) x = true
  · rw [takeL_1 a0]; exact a0
  · have a0' : holdsL (calm l x.Tx) x = false := by cases h : holdsL (calm l x.Tx) x <;> simp_all
    by_cases a1 : (clashW (calm l x.Tx) x l.Held.length).length = 0
    · by_cases a2 : l.Held.length = 60
      · rw [takeL_2 a0 a1 a2]; exact a0'
      · rw [takeL_3 a0 a1 a2]; exact holds_app
    · by_cases a3 : 100 < (calm l x.Tx).Waits.length + (clashW (calm l x.Tx) x l.Held.length).length
      · rw [takeL_4 a0 a1 a3]; exact a0'
      · by_cases a4 : roundB ((calm l x.Tx).Waits ++ clashW (calm l x.Tx) x l.Held.length) x.Tx = true
        · rw [takeL_5 a0 a1 a3 a4]; exact a0'
        · rw [takeL_6 a0 a1 a3 a4]; exact a0'
theorem takeL_round {l : GLocks} {x : GLock} : roundB (takeL l x).1.Waits x.Tx = false := by
  by_cases a0 : holdsL (calm l x.Tx) x = true
  · rw [takeL_1 a0]; exact roundB_calm calm_no
  · by_cases a1 : (clashW (calm l x.Tx) x l.Held.length).length = 0
    · by_cases a2 : l.Held.length = 60
      · rw [takeL_2 a0 a1 a2]; exact roundB_calm calm_no
      · rw [takeL_3 a0 a1 a2]; exact roundB_calm calm_no
    · by_cases a3 : 100 < (calm l x.Tx).Waits.length + (clashW (calm l x.Tx) x l.Held.length).length
      · rw [takeL_4 a0 a1 a3]; exact roundB_calm calm_no
      · by_cases a4 : roundB ((calm l x.Tx).Waits ++ clashW (calm l x.Tx) x l.Held.length) x.Tx = true
        · rw [takeL_5 a0 a1 a3 a4]; exact roundB_calm calm_no
        · rw [takeL_6 a0 a1 a3 a4]
          cases h : roundB ((calm l x.Tx).Waits ++ clashW (calm l x.Tx) x l.Held.length) x.Tx with
          | false => rfl
          | true => exact absurd h a4
theorem clash_any {l : GLocks} {x : GLock} (h : ¬ (clashW (calm l x.Tx) x l.Held.length).length = 0) : l.Held.any (fun h => clashes h x) = true := by
  cases hw : clashW (calm l x.Tx) x l.Held.length with
  | nil => rw [hw] at h; exact absurd rfl h
  | cons w ws =>
    obtain ⟨b, hb, hc, _⟩ := clashW_mem (l := calm l x.Tx) (Nat.le_refl _) w (by rw [show (calm l x.Tx).Held.length = l.Held.length from rfl, hw]; simp)
    exact List.any_eq_true.2 ⟨b, hb, hc⟩
theorem takeL_code {l : GLocks} {x : GLock} : (takeL l x).2 = 0 ∨ (takeL l x).2 = 7 ∨ l.Held.any (fun h => clashes h x) = true := by
  by_cases a0 : holdsL (calm l x.Tx) x = true
  · rw [takeL_1 a0]; exact .inl rfl
  · by_cases a1 : (clashW (calm l x.Tx) x l.Held.length).length = 0
    · by_cases a2 : l.Held.length = 60
      · rw [takeL_2 a0 a1 a2]; exact .inr (.inl rfl)
      · rw [takeL_3 a0 a1 a2]; exact .inl rfl
    · exact .inr (.inr (clash_any a1))
theorem any_clash_same {l : GLocks} {x : GLock} {k : Nat} (hk : k < l.Held.length) (h : (¬ l.Held[k].Table = x.Table ∨ ¬ l.Held[k].Row = x.Row) ∨ l.Held[k].Tx = x.Tx) :
    (l.Held.take k).any (fun h => clashes h x) = (l.Held.take (k + 1)).any (fun h => clashes h x) := by
  rw [any_take_succ hk]
  have : clashes l.Held[k] x = false := by unfold clashes isThing; rcases h with (h | h) | h <;> simp [h]
  rw [this, Bool.or_false]
theorem any_clash_next {l : GLocks} {x : GLock} {k : Nat} (hk : k < l.Held.length) (h : (l.Held[k].Table = x.Table ∧ l.Held[k].Row = x.Row) ∧ ¬ l.Held[k].Tx = x.Tx) :
    ((l.Held.take k).any (fun h => clashes h x) || !modesFit l.Held[k].Mode x.Mode) = (l.Held.take (k + 1)).any (fun h => clashes h x) := by
  rw [any_take_succ hk]
  have : clashes l.Held[k] x = !modesFit l.Held[k].Mode x.Mode := by unfold clashes isThing; simp [h]
  rw [this]
theorem isMode_mk {n : Int} (h : 1 ≤ n ∧ n ≤ 4) : isMode n = true := by unfold isMode inR; simp; omega
theorem any_clash_nextM {l : GLocks} {x : GLock} {k : Nat} (hk : k < l.Held.length) (h : (l.Held[k].Table = x.Table ∧ l.Held[k].Row = x.Row) ∧ ¬ l.Held[k].Tx = x.Tx) (h1 : isMode l.Held[k].Mode = true) (h2 : isMode x.Mode = true) :
    ((l.Held.take k).any (fun h => clashes h x) || !(bif isMode l.Held[k].Mode && isMode x.Mode then modesFit l.Held[k].Mode x.Mode else false)) = (l.Held.take (k + 1)).any (fun h => clashes h x) := by
  rw [h1, h2]; exact any_clash_next hk h
end Go.AM

