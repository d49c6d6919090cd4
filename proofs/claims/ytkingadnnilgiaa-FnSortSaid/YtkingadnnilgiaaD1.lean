/- Plain laws about strings, marks, types of the program and what its functions compute; readings of arguments (part 1). -/
import Derived.Test.YtkingadnnilgiaaD
set_option linter.unusedVariables false
set_option linter.unusedSimpArgs false
/- Plain laws: changes that are done one by one. -/
namespace Go.AM
def posR (xs : List GRow) (id : Int) : Nat := (xs.takeWhile (fun r => decide (r.Id < id))).length
def atR (xs : List GRow) (id : Int) : Bool := match xs[posR xs id]? with
  | some r => decide (r.Id = id)
  | none => false
def sortR : List GRow → Prop
  | [] => True
  | [_] => True
  | a :: b :: r => a.Id < b.Id ∧ sortR (b :: r)
theorem sortR_tail {a : GRow} {xs : List GRow} (h : sortR (a :: xs)) : sortR xs := by
  cases xs with
  | nil => exact True.intro
  | cons b r => exact h.2
theorem sortR_head {a : GRow} {xs : List GRow} (h : sortR (a :: xs)) : ∀ x ∈ xs, a.Id < x.Id := by
  induction xs generalizing a with
  | nil => intro x hx; cases hx
  | cons b r ih =>
    intro x hx
    rcases List.mem_cons.1 hx with rfl | hx
    · exact h.1
    · exact Int.lt_trans h.1 (ih h.2 x hx)
theorem sortR_cons {a : GRow} {xs : List GRow} (h : sortR xs) (ha : ∀ x ∈ xs, a.Id < x.Id) : sortR (a :: xs) := by
  cases xs with
  | nil => exact True.intro
  | cons b r => exact ⟨ha b (List.mem_cons_self ..), h⟩
theorem posR_le {xs : List GRow} {id : Int} : posR xs id ≤ xs.length := by
  unfold posR
  induction xs with
  | nil => simp
  | cons a xs ih =>
    rw [List.takeWhile_cons]
    split
    · simp only [List.length_cons]; omega
    · simp
theorem posR_spec {id : Int} : ∀ {xs : List GRow}, sortR xs → (∀ j (h : j < xs.length), j < posR xs id → xs[j].Id < id) ∧ (∀ j (h : j < xs.length), posR xs id ≤ j → id ≤ xs[j].Id)
  | [], _ => ⟨fun j h => by simp at h, fun j h => by simp at h⟩
  | a :: xs, hs => by
    obtain ⟨h1, h2⟩ := posR_spec (id := id) (sortR_tail hs)
    unfold posR at *
    rw [List.takeWhile_cons]
    by_cases ha : a.Id < id
    · rw [if_pos (by simpa using ha)]
      have hlc : (a :: List.takeWhile (fun r => decide (r.Id < id)) xs).length = (List.takeWhile (fun r => decide (r.Id < id)) xs).length + 1 := by simp
      refine ⟨fun j hj hlt => ?_, fun j hj hle => ?_⟩
      · cases j with
        | zero => exact ha
        | succ j => exact h1 j (by simpa using hj) (by omega)
      · cases j with
        | zero => omega
        | succ j => exact h2 j (by simpa using hj) (by omega)
    · rw [if_neg (by simpa using ha)]
      refine ⟨fun j hj hlt => by simp at hlt, fun j hj _ => ?_⟩
      cases j with
      | zero => simpa using ha
      | succ j =>
        have := sortR_head hs _ (List.getElem_mem (show j < xs.length by simpa using hj))
        have e : (a :: xs)[j + 1].Id = (xs[j]'(by simpa using hj)).Id := rfl
        omega
theorem atR_iff {xs : List GRow} {id : Int} : atR xs id = true ↔ ∃ h : posR xs id < xs.length, xs[posR xs id].Id = id := by
  unfold atR
  by_cases h : posR xs id < xs.length
  · rw [List.getElem?_eq_getElem h]
    simp [h]
  · rw [List.getElem?_eq_none (by omega)]
    simp [h]
/-- The place is the only one that parts what is less. -/
theorem posR_of {xs : List GRow} {id : Int} {k : Nat} (hs : sortR xs) (hk : k ≤ xs.length) (h1 : ∀ j (h : j < xs.length), j < k → xs[j].Id < id) (h2 : ∀ h : k < xs.length, ¬ xs[k].Id < id) : k = posR xs id := by
  obtain ⟨p1, p2⟩ := posR_spec (id := id) hs
  have hp := @posR_le xs id
  rcases Nat.lt_trichotomy k (posR xs id) with h | h | h
  · exact absurd (p1 k (by omega) h) (h2 (by omega))
  · exact h
  · have a := h1 (posR xs id) (by omega) h
    have b := p2 (posR xs id) (by omega) (Nat.le_refl _)
    omega
def pinR (xs : List GRow) (r : GRow) : List GRow := if atR xs r.Id = true then xs.set (posR xs r.Id) r else insA xs (posR xs r.Id) r
def poutR (xs : List GRow) (id : Int) : List GRow := if atR xs id = true then delA xs (posR xs id) else xs
theorem sortR_app {xs ys : List GRow} (hx : sortR xs) (hy : sortR ys) (h : ∀ a ∈ xs, ∀ b ∈ ys, a.Id < b.Id) : sortR (xs ++ ys) := by
  induction xs with
  | nil => exact hy
  | cons a xs ih =>
    rw [List.cons_append]
    refine sortR_cons (ih (sortR_tail hx) (fun c hc => h c (List.mem_cons_of_mem _ hc))) (fun x hxm => ?_)
    rcases List.mem_append.1 hxm with g | g
    · exact sortR_head hx x g
    · exact h a (List.mem_cons_self ..) x g
theorem sortR_take {xs : List GRow} (h : sortR xs) (k : Nat) : sortR (xs.take k) := by
  induction xs generalizing k with
  | nil => simp; exact True.intro
  | cons a xs ih =>
    cases k with
    | zero => exact True.intro
    | succ k =>
      rw [List.take_succ_cons]
      exact sortR_cons (ih (sortR_tail h) k) (fun x hx => sortR_head h x (List.mem_of_mem_take hx))
theorem sortR_drop {xs : List GRow} (h : sortR xs) (k : Nat) : sortR (xs.drop k) := by
  induction k generalizing xs with
  | zero => exact h
  | succ k ih =>
    cases xs with
    | nil => exact True.intro
    | cons a xs => rw [List.drop_succ_cons]; exact ih (sortR_tail h)
theorem take_lt {xs : List GRow} {id : Int} (hs : sortR xs) : ∀ a ∈ xs.take (posR xs id), a.Id < id := by
  intro a ha
  obtain ⟨j, hj, rfl⟩ := List.mem_iff_getElem.1 ha
  rw [List.getElem_take]
  simp only [List.length_take] at hj
  exact (posR_spec hs).1 j (by omega) (by omega)
theorem drop_ge {xs : List GRow} {id : Int} (hs : sortR xs) : ∀ a ∈ xs.drop (posR xs id), id ≤ a.Id := by
  intro a ha
  obtain ⟨j, hj, rfl⟩ := List.mem_iff_getElem.1 ha
  rw [List.getElem_drop]
  simp only [List.length_drop] at hj
  exact (posR_spec hs).2 _ (by omega) (by omega)
theorem putR_eq {xs : List GRow} {r : GRow} : pinR xs r = xs.take (posR xs r.Id) ++ r :: xs.drop (if atR xs r.Id = true then posR xs r.Id + 1 else posR xs r.Id) := by
  unfold pinR
  split
  · rename_i h
    obtain ⟨hk, _⟩ := atR_iff.1 h
    apply List.ext_getElem?
    intro n
    simp only [List.getElem?_set, List.getElem?_append, List.length_take, Nat.min_eq_left (Nat.le_of_lt hk)]
    by_cases h1 : posR xs r.Id = n
    · subst h1; simp [hk]
    · rw [if_neg h1]
      by_cases h2 : n < posR xs r.Id
      · simp [h2, List.getElem?_take]
      · rw [if_neg h2]
        obtain ⟨m, rfl⟩ : ∃ m, n = posR xs r.Id + (m + 1) := ⟨n - posR xs r.Id - 1, by omega⟩
        rw [show posR xs r.Id + (m + 1) - posR xs r.Id = m + 1 from by omega, List.getElem?_cons_succ, List.getElem?_drop]
        congr 1; omega
  · rfl
theorem drop_gt {xs : List GRow} {id : Int} (hs : sortR xs) : ∀ b ∈ xs.drop (if atR xs id = true then posR xs id + 1 else posR xs id), id < b.Id := by
  intro b hb
  split at hb
  · rename_i h
    obtain ⟨hk, he⟩ := atR_iff.1 h
    have := sortR_head (a := xs[posR xs id]) (xs := xs.drop (posR xs id + 1)) (by rw [← List.drop_eq_getElem_cons hk]; exact sortR_drop hs _) b hb
    omega
  · rename_i h
    have h1 := drop_ge hs b hb
    rcases Int.lt_or_eq_of_le h1 with h2 | h2
    · exact h2
    · exfalso
      obtain ⟨j, hj, rfl⟩ := List.mem_iff_getElem.1 hb
      simp only [List.length_drop] at hj
      rw [List.getElem_drop] at h2
      refine h (atR_iff.2 ⟨by omega, ?_⟩)
      have h3 := drop_ge hs (xs[posR xs id]'(by omega)) (by rw [List.drop_eq_getElem_cons (show posR xs id < xs.length by omega)]; exact List.mem_cons_self ..)
      rcases Nat.eq_zero_or_pos j with q | q
      · subst q; simpa using h2.symm
      · have h4 := sortR_head (a := xs[posR xs id]'(by omega)) (xs := xs.drop (posR xs id + 1)) (by rw [← List.drop_eq_getElem_cons (by omega)]; exact sortR_drop hs _) (xs[posR xs id + j]'(by omega)) (by
          rw [List.mem_iff_getElem]
          exact ⟨j - 1, by simp only [List.length_drop]; omega, by rw [List.getElem_drop]; congr 1; omega⟩)
        omega
theorem putR_sort {xs : List GRow} {r : GRow} (hs : sortR xs) : sortR (pinR xs r) := by
  rw [putR_eq]
  refine sortR_app (sortR_take hs _) (sortR_cons (sortR_drop hs _) (drop_gt hs)) (fun a ha b hb => ?_)
  have h1 := take_lt hs a ha
  rcases List.mem_cons.1 hb with rfl | hb
  · exact h1
  · have := drop_gt (id := r.Id) hs b hb; omega
theorem dropR_eq {xs : List GRow} {id : Int} : poutR xs id = xs.take (posR xs id) ++ xs.drop (if atR xs id = true then posR xs id + 1 else posR xs id) := by
  unfold poutR
  split
  · rfl
  · rw [List.take_append_drop]
theorem dropR_sort {xs : List GRow} {id : Int} (hs : sortR xs) : sortR (poutR xs id) := by
  rw [dropR_eq]
  exact sortR_app (sortR_take hs _) (sortR_drop hs _) (fun a ha b hb => by have h1 := take_lt hs a ha; have h2 := drop_gt hs b hb; omega)
theorem putR_len {xs : List GRow} {r : GRow} : (pinR xs r).length ≤ xs.length + 1 := by
  unfold pinR; split
  · simp
  · rw [insA_len posR_le]; exact Nat.le_refl _
theorem dropR_len {xs : List GRow} {id : Int} : (poutR xs id).length ≤ xs.length := by
  unfold poutR; split
  · rename_i h; obtain ⟨hk, _⟩ := atR_iff.1 h; rw [delA_len hk]; omega
  · exact Nat.le_refl _
def chF (t : Int) (xs : List GRow) (c : GChange) : List GRow := if c.Table = t then (if c.Gone = true then poutR xs c.Row.Id else pinR xs c.Row) else xs
def foldF (l : List GChange) (t : Int) : Nat → List GRow
  | 0 => []
  | k + 1 => match l[k]? with
    | none => foldF l t k
    | some c => chF t (foldF l t k) c
theorem foldF_succ {l : List GChange} {t : Int} {k : Nat} (h : k < l.length) : foldF l t (k + 1) = chF t (foldF l t k) l[k] := by
  rw [foldF, List.getElem?_eq_getElem h]
theorem chF_sort {t : Int} {xs : List GRow} {c : GChange} (h : sortR xs) : sortR (chF t xs c) := by
  unfold chF; split
  · split
    · exact dropR_sort h
    · exact putR_sort h
  · exact h
theorem foldF_ok {l : List GChange} {t : Int} : ∀ k, sortR (foldF l t k) ∧ (foldF l t k).length ≤ k
  | 0 => ⟨True.intro, Nat.le_refl _⟩
  | k + 1 => by
    obtain ⟨h1, h2⟩ := @foldF_ok l t k
    rw [foldF]
    split
    · exact ⟨h1, by omega⟩
    · refine ⟨chF_sort h1, ?_⟩
      unfold chF; split
      · split
        · have := @dropR_len (foldF l t k) (by assumption : GChange).Row.Id; omega
        · have := @putR_len (foldF l t k) (by assumption : GChange).Row; omega
      · omega
def badC (c : GChange) : Bool := (!inR c.Session 0 2 || !inR c.Table 1 3) || !rowOK c.Row
def chsOK (l : List GChange) : Bool := decide (l.length ≤ 1000) && !l.any badC
def fdF (l : List GChange) (t : Int) : List GRow × Int := if 4096 < l.length then ([], 2) else if chsOK l = false then ([], 1) else if inR t 1 3 = false then ([], 4) else (foldF l t l.length, 0)
theorem fdF_0 {l : List GChange} {t : Int} (h : 4096 < l.length) : fdF l t = ([], 2) := by unfold fdF; rw [if_pos h]
theorem fdF_1 {l : List GChange} {t : Int} (h : ¬ 4096 < l.length) (h1 : chsOK l = false) : fdF l t = ([], 1) := by unfold fdF; rw [if_neg h, if_pos h1]
theorem fdF_2 {l : List GChange} {t : Int} (h : ¬ 4096 < l.length) (h1 : chsOK l = true) (h2 : inR t 1 3 = false) : fdF l t = ([], 4) := by unfold fdF; rw [if_neg h, if_neg (by rw [h1]; simp), if_pos h2]
theorem fdF_3 {l : List GChange} {t : Int} (h : ¬ 4096 < l.length) (h1 : chsOK l = true) (h2 : inR t 1 3 = true) : fdF l t = (foldF l t l.length, 0) := by unfold fdF; rw [if_neg h, if_neg (by rw [h1]; simp), if_neg (by rw [h2]; simp)]
theorem chsOK_1 {l : List GChange} (h : ¬ l.length ≤ 1000) : chsOK l = false := by unfold chsOK; rw [decide_eq_false h]; rfl
theorem chsOK_2 {l : List GChange} (h : chsOK l = true) : l.length ≤ 1000 := by unfold chsOK at h; rw [Bool.and_eq_true] at h; exact of_decide_eq_true h.1
theorem any_hitC {l : List GChange} {k : Nat} (h : k < l.length) (hb : badC l[k] = true) : chsOK l = false := by
  unfold chsOK
  rw [List.any_eq_true.2 ⟨_, List.getElem_mem h, hb⟩]; simp
theorem atR_cmp {xs : List GRow} {id : Int} : hitA (fun r => cmpI r.Id id) xs (posR xs id) = atR xs id := by
  unfold atR hitA
  cases xs[posR xs id]? with
  | none => rfl
  | some s =>
    by_cases h : s.Id = id
    · simp [h, cmpI_z.2]
    · have : ¬ cmpI s.Id id = 0 := fun e => h (cmpI_z.1 e)
      simp [h, this]
section
variable {xs : List GRow} {r : GRow} {id t : Int} {c : GChange}
theorem pinR_1 (h : atR xs r.Id = true) : pinR xs r = xs.set (posR xs r.Id) r := by unfold pinR; rw [if_pos h]
theorem pinR_2 (h : atR xs r.Id = false) : pinR xs r = insA xs (posR xs r.Id) r := by unfold pinR; rw [if_neg (by rw [h]; simp)]
theorem poutR_1 (h : atR xs id = true) : poutR xs id = delA xs (posR xs id) := by unfold poutR; rw [if_pos h]
theorem poutR_2 (h : atR xs id = false) : poutR xs id = xs := by unfold poutR; rw [if_neg (by rw [h]; simp)]
theorem ch_1 (h : ¬ c.Table = t) : chF t xs c = xs := by unfold chF; rw [if_neg h]
theorem ch_2 (h : c.Table = t) (g : c.Gone = true) : chF t xs c = poutR xs c.Row.Id := by unfold chF; rw [if_pos h, if_pos g]
theorem ch_3 (h : c.Table = t) (g : c.Gone = false) : chF t xs c = pinR xs c.Row := by unfold chF; rw [if_pos h, if_neg (by rw [g]; simp)]
theorem rowD {j : Nat} (h : j < xs.length) : (xs.map GRow.row)[j]? = some (GRow.row (xs.getD j .zero)) := by
  rw [mapAt h]; simp [List.getD_eq_getElem?_getD, h]
theorem getD_r {j : Nat} (h : j < xs.length) : xs.getD j .zero = xs[j] := by simp [List.getD_eq_getElem?_getD, h]
theorem atR_t (h : posR xs id < xs.length ∧ (xs.getD (posR xs id) .zero).Id = id) : atR xs id = true := atR_iff.2 ⟨h.1, by rw [← getD_r h.1]; exact h.2⟩
theorem atR_f (h : ¬ posR xs id < xs.length ∨ ¬ (xs.getD (posR xs id) .zero).Id = id) : atR xs id = false := by
  cases e : atR xs id with
  | false => rfl
  | true =>
    obtain ⟨h1, h2⟩ := atR_iff.1 e
    rcases h with h | h
    · exact absurd h1 h
    · rw [getD_r h1] at h; exact absurd h2 h
theorem fold_1 (h : c.Table = t) (ha : atR xs c.Row.Id = true) (g : c.Gone = true) : chF t xs c = xs.take (posR xs c.Row.Id) ++ xs.drop (posR xs c.Row.Id + 1) := by rw [ch_2 h g, dropR_eq, if_pos ha]
theorem fold_2 (h : c.Table = t) (ha : atR xs c.Row.Id = false) (g : c.Gone = true) : chF t xs c = xs.take (posR xs c.Row.Id) ++ xs.drop (posR xs c.Row.Id) := by rw [ch_2 h g, dropR_eq, if_neg (by rw [ha]; simp)]
theorem fold_3 (h : c.Table = t) (ha : atR xs c.Row.Id = true) (g : c.Gone = false) : chF t xs c = (xs.take (posR xs c.Row.Id) ++ [c.Row]) ++ xs.drop (posR xs c.Row.Id + 1) := by rw [ch_3 h g, putR_eq, if_pos ha]; simp
theorem fold_4 (h : c.Table = t) (ha : atR xs c.Row.Id = false) (g : c.Gone = false) : chF t xs c = (xs.take (posR xs c.Row.Id) ++ [c.Row]) ++ xs.drop (posR xs c.Row.Id) := by rw [ch_3 h g, putR_eq, if_neg (by rw [ha]; simp)]; simp
end
theorem row_take {xs : List GRow} {n k : Nat} (h : k ≤ xs.length) (hn : n = xs.length - k) : ((xs.map GRow.row).drop k).take n = (xs.drop k).map GRow.row := by
  rw [List.take_of_length_le (by simp; omega), List.map_drop]
theorem chg_sz {l : List GChange} {n : Nat} (h : szL GChange.sz l ≤ n) : l.length ≤ n ∧ ∀ x ∈ l, x.Row.N.T.length ≤ n ∧ x.Row.Name.T.length ≤ n := by
  have h1 := @szL_len _ GChange.sz l
  refine ⟨by omega, fun x hx => ?_⟩
  have h2 := szL_mem (f := GChange.sz) hx
  have h3 : GChange.sz x = x.Row.N.T.length + x.Row.Name.T.length := rfl
  omega
theorem fdF_len {l : List GChange} {t : Int} : (fdF l t).1.length ≤ 1000 := by
  unfold fdF
  split
  · simp
  · split
    · simp
    · rename_i h
      have h1 : l.length ≤ 1000 := chsOK_2 (by simpa using h)
      split
      · simp
      · have := (@foldF_ok l t l.length).2; dsimp only; omega
theorem chsOK_d {l : List GChange} : (decide ((l.length : Int) ≤ 1000) && !l.any badC) = chsOK l := by
  unfold chsOK
  congr 1
  exact decide_eq_decide.2 (by omega)
end Go.AM

/- Plain laws: the last change of a row stands. -/
namespace Go.AM
theorem mem_pinR {xs : List GRow} {r x : GRow} (hs : sortR xs) : x ∈ pinR xs r ↔ x = r ∨ (x ∈ xs ∧ ¬ x.Id = r.Id) := by
  have h1 := @take_lt xs r.Id hs
  have h2 := @drop_gt xs r.Id hs
  have hx : xs = xs.take (posR xs r.Id) ++ xs.drop (posR xs r.Id) := (List.take_append_drop ..).symm
  rw [putR_eq, List.mem_append, List.mem_cons]
  constructor
  · rintro (h | h | h)
    · exact .inr ⟨List.mem_of_mem_take h, by have := h1 x h; omega⟩
    · exact .inl h
    · refine .inr ⟨List.mem_of_mem_drop h, by have := h2 x h; omega⟩
  · rintro (h | ⟨h, hn⟩)
    · exact .inr (.inl h)
    · rw [hx] at h
      rcases List.mem_append.1 h with h | h
      · exact .inl h
      · right; right
        split
        · rename_i ha
          obtain ⟨hk, he⟩ := atR_iff.1 ha
          rw [List.drop_eq_getElem_cons hk] at h
          rcases List.mem_cons.1 h with rfl | h
          · exact absurd he hn
          · exact h
        · exact h
theorem mem_poutR {xs : List GRow} {id : Int} {x : GRow} (hs : sortR xs) : x ∈ poutR xs id ↔ x ∈ xs ∧ ¬ x.Id = id := by
  have h1 := @take_lt xs id hs
  have h2 := @drop_gt xs id hs
  have hx : xs = xs.take (posR xs id) ++ xs.drop (posR xs id) := (List.take_append_drop ..).symm
  rw [dropR_eq, List.mem_append]
  constructor
  · rintro (h | h)
    · exact ⟨List.mem_of_mem_take h, by have := h1 x h; omega⟩
    · exact ⟨List.mem_of_mem_drop h, by have := h2 x h; omega⟩
  · rintro ⟨h, hn⟩
    rw [hx] at h
    rcases List.mem_append.1 h with h | h
    · exact .inl h
    · right
      split
      · rename_i ha
        obtain ⟨hk, he⟩ := atR_iff.1 ha
        rw [List.drop_eq_getElem_cons hk] at h
        rcases List.mem_cons.1 h with rfl | h
        · exact absurd he hn
        · exact h
      · exact h
/-- The last change of a row, -1 without one. -/
def lastF (l : List GChange) (t id : Int) : Nat → Int
  | 0 => -1
  | k + 1 => match l[k]? with
    | none => lastF l t id k
    | some c => if c.Table = t ∧ c.Row.Id = id then (k : Int) else lastF l t id k
theorem lastF_succ {l : List GChange} {t id : Int} {k : Nat} (h : k < l.length) : lastF l t id (k + 1) = if l[k].Table = t ∧ l[k].Row.Id = id then (k : Int) else lastF l t id k := by
  rw [lastF, List.getElem?_eq_getElem h]
theorem lastF_b {l : List GChange} {t id : Int} : ∀ k, -1 ≤ lastF l t id k ∧ lastF l t id k < k ∧ lastF l t id k < l.length
  | 0 => by rw [lastF]; omega
  | k + 1 => by
    have := @lastF_b l t id k
    rw [lastF]
    split
    · omega
    · rename_i h
      obtain ⟨hk, _⟩ := List.getElem?_eq_some_iff.1 h
      split <;> omega
def lastC (l : List GChange) (t id : Int) (k : Nat) : GChange := l.getD (lastF l t id k).toNat .zero
/-- What stands of a row. -/
theorem foldF_last {l : List GChange} {t : Int} : ∀ k, k ≤ l.length → ∀ r, r ∈ foldF l t k ↔ (0 ≤ lastF l t r.Id k ∧ (lastC l t r.Id k).Row = r ∧ (lastC l t r.Id k).Gone = false)
  | 0, _, r => by rw [foldF, lastF]; simp
  | k + 1, hk, r => by
    have hk' : k < l.length := by omega
    have ih := foldF_last (l := l) (t := t) k (by omega) r
    obtain ⟨hs, _⟩ := @foldF_ok l t k
    have hat : l.getD ((k : Int)).toNat .zero = l[k] := by simp [List.getD_eq_getElem?_getD, hk']
    rw [foldF_succ hk']
    unfold lastC at *
    rw [lastF_succ hk']
    by_cases h1 : l[k].Table = t
    · cases hg : l[k].Gone with
      | true =>
        rw [ch_2 h1 hg, mem_poutR hs]
        by_cases h2 : l[k].Row.Id = r.Id
        · rw [if_pos ⟨h1, h2⟩, hat, hg]
          constructor
          · rintro ⟨_, h⟩; exact absurd h2.symm h
          · rintro ⟨_, _, h⟩; cases h
        · rw [if_neg (fun h => h2 h.2), ih]
          constructor
          · rintro ⟨h, _⟩; exact h
          · intro h; exact ⟨h, fun e => h2 e.symm⟩
      | false =>
        rw [ch_3 h1 hg, mem_pinR hs]
        by_cases h2 : l[k].Row.Id = r.Id
        · rw [if_pos ⟨h1, h2⟩, hat, hg]
          constructor
          · rintro (h | ⟨_, h⟩)
            · exact ⟨by omega, h.symm, rfl⟩
            · exact absurd h2.symm h
          · rintro ⟨_, h, _⟩; exact .inl h.symm
        · rw [if_neg (fun h => h2 h.2), ih]
          constructor
          · rintro (h | ⟨h, _⟩)
            · subst h; exact absurd rfl h2
            · exact h
          · intro h; exact .inr ⟨h, fun e => h2 e.symm⟩
    · rw [ch_1 h1, if_neg (fun h => h1 h.1)]; exact ih
theorem lastF_id {l : List GChange} {t id : Int} : ∀ k, 0 ≤ lastF l t id k → (lastC l t id k).Row.Id = id
  | 0, h => by rw [lastF] at h; omega
  | k + 1, h => by
    have ih := @lastF_id l t id k
    unfold lastC at *
    rw [lastF] at h ⊢
    split at h
    · exact ih h
    · rename_i c hc
      obtain ⟨hk, rfl⟩ := List.getElem?_eq_some_iff.1 hc
      split
      · rename_i h2
        have : l.getD ((k : Int)).toNat .zero = l[k] := by simp [List.getD_eq_getElem?_getD, hk]
        rw [this]; exact h2.2
      · rename_i h2; rw [if_neg h2] at h; exact ih h
/-- Whether a row is among the first ones. -/
def foundF (xs : List GRow) (id : Int) (k : Nat) : Bool := (xs.take k).any (fun r => decide (r.Id = id))
theorem foundF_succ {xs : List GRow} {id : Int} {k : Nat} (h : k < xs.length) : foundF xs id (k + 1) = (foundF xs id k || decide (xs[k].Id = id)) := by
  unfold foundF; rw [take_succ h, List.any_append]; simp
theorem found_last {l : List GChange} {t id : Int} : foundF (foldF l t l.length) id (foldF l t l.length).length = (decide (0 ≤ lastF l t id l.length) && !(lastC l t id l.length).Gone) := by
  rw [Bool.eq_iff_iff]
  unfold foundF
  rw [List.take_length, List.any_eq_true]
  simp only [decide_eq_true_eq, Bool.and_eq_true, Bool.not_eq_true']
  constructor
  · rintro ⟨r, hr, rfl⟩
    obtain ⟨h1, h2, h3⟩ := (foldF_last l.length (Nat.le_refl _) r).1 hr
    exact ⟨h1, h3⟩
  · rintro ⟨h1, h2⟩
    have hid := lastF_id (l := l) (t := t) (id := id) l.length h1
    refine ⟨(lastC l t id l.length).Row, ?_, hid⟩
    rw [foldF_last l.length (Nat.le_refl _), hid]
    exact ⟨h1, rfl, h2⟩
theorem row_last {l : List GChange} {t : Int} {j : Nat} (h : j < (foldF l t l.length).length) : 0 ≤ lastF l t (foldF l t l.length)[j].Id l.length ∧ (lastC l t (foldF l t l.length)[j].Id l.length).Row = (foldF l t l.length)[j] := by
  obtain ⟨h1, h2, _⟩ := (foldF_last (l := l) (t := t) l.length (Nat.le_refl _) _).1 (List.getElem_mem h)
  exact ⟨h1, h2⟩
theorem chD {l : List GChange} {k : Nat} (h : k < l.length) : (l.map GChange.row)[k]? = some (GChange.row (l.getD k .zero)) := by
  rw [mapAt h]; simp [List.getD_eq_getElem?_getD, h]
theorem chD' {l : List GChange} {k : Nat} (h : k < l.length) : l.getD k .zero = l[k] := by simp [List.getD_eq_getElem?_getD, h]
theorem badC_no {c : GChange} (h1 : 0 ≤ c.Session ∧ c.Session ≤ 2) (h2 : 1 ≤ c.Table ∧ c.Table ≤ 3) (h3 : rowOK c.Row = true) : badC c = false := by
  unfold badC; rw [inR_iff.2 h1, inR_iff.2 h2, h3]; rfl
theorem chs_of {l : List GChange} (hl : l.length ≤ 7) (hb : ∀ c ∈ l, badC c = false) : chsOK l = true ∧ l.length ≤ 1048576 ∧ ∀ x ∈ l, x.Row.N.T.length ≤ 1048576 ∧ x.Row.Name.T.length ≤ 1048576 := by
  refine ⟨?_, by omega, fun x hx => ?_⟩
  · unfold chsOK
    rw [decide_eq_true (by omega)]
    cases h : l.any badC with
    | false => rfl
    | true =>
      obtain ⟨c, hc, hh⟩ := List.any_eq_true.1 h
      rw [hb c hc] at hh; cases hh
  · have h := hb x hx
    unfold badC at h
    have : rowOK x.Row = true := by
      cases hr : rowOK x.Row with
      | true => rfl
      | false => rw [hr] at h; simp at h
    have := RR.of this
    exact ⟨this.n.l, this.m.l⟩
end Go.AM

/- Plain laws: sorting by insertion; the order of rows; drawn rows. -/
namespace Go.AM
section
variable {α : Type}
/-- Where a value goes: behind the last of the first 'k' that it isn't ahead of. -/
def posI (lt : α → α → Bool) (x : α) (l : List α) : Nat → Nat
  | 0 => 0
  | k + 1 => match l[k]? with
    | none => posI lt x l k
    | some y => if lt x y = true then posI lt x l k else k + 1
variable {lt : α → α → Bool} {x : α} {l : List α}
theorem posI_le : ∀ {k : Nat}, posI lt x l k ≤ k
  | 0 => Nat.le_refl _
  | k + 1 => by
    rw [posI]; split
    · exact Nat.le_succ_of_le posI_le
    · split
      · exact Nat.le_succ_of_le posI_le
      · exact Nat.le_refl _
theorem posI_t {k : Nat} (hk : k < l.length) (h : lt x l[k] = true) : posI lt x l (k + 1) = posI lt x l k := by
  rw [posI, List.getElem?_eq_getElem hk]; dsimp only; rw [if_pos h]
theorem posI_f {k : Nat} (hk : k < l.length) (h : lt x l[k] = false) : posI lt x l (k + 1) = k + 1 := by
  rw [posI, List.getElem?_eq_getElem hk]; dsimp only; rw [if_neg (by rw [h]; simp)]
def insS (lt : α → α → Bool) (l : List α) (x : α) : List α := l.take (posI lt x l l.length) ++ x :: l.drop (posI lt x l l.length)
def sortS (lt : α → α → Bool) (l : List α) : List α := l.foldl (insS lt) []
theorem insS_len : (insS lt l x).length = l.length + 1 := by
  have := @posI_le α lt x l l.length
  unfold insS; simp; omega
theorem sortS_len : (sortS lt l).length = l.length := by
  unfold sortS
  suffices h : ∀ (l a : List α), (l.foldl (insS lt) a).length = a.length + l.length from by have := h l []; simpa using this
  intro l
  induction l with
  | nil => intro a; rfl
  | cons x l ih => intro a; rw [List.foldl_cons, ih, insS_len, List.length_cons]; omega
theorem sortS_take {k : Nat} (hk : k < l.length) : sortS lt (l.take (k + 1)) = insS lt (sortS lt (l.take k)) l[k] := by
  rw [take_succ hk]; unfold sortS; rw [List.foldl_append]; rfl
theorem insS_mem {y : α} : y ∈ insS lt l x ↔ y = x ∨ y ∈ l := by
  unfold insS
  rw [List.mem_append, List.mem_cons]
  constructor
  · rintro (h | h | h)
    · exact .inr (List.mem_of_mem_take h)
    · exact .inl h
    · exact .inr (List.mem_of_mem_drop h)
  · rintro (h | h)
    · exact .inr (.inl h)
    · rw [← List.take_append_drop (posI lt x l l.length) l] at h
      rcases List.mem_append.1 h with h | h
      · exact .inl h
      · exact .inr (.inr h)
theorem sortS_mem {y : α} : y ∈ sortS lt l ↔ y ∈ l := by
  unfold sortS
  suffices h : ∀ (l a : List α), y ∈ l.foldl (insS lt) a ↔ y ∈ a ∨ y ∈ l from by have := h l []; simpa using this
  intro l
  induction l with
  | nil => intro a; simp
  | cons x l ih =>
    intro a; rw [List.foldl_cons, ih, insS_mem, List.mem_cons]
    constructor
    · rintro ((h | h) | h)
      · exact .inr (.inl h)
      · exact .inl h
      · exact .inr (.inr h)
    · rintro (h | h | h)
      · exact .inl (.inr h)
      · exact .inl (.inl h)
      · exact .inr h
/-- None is ahead of the one in front of it. -/
def chain (lt : α → α → Bool) : List α → Prop
  | [] => True
  | [_] => True
  | a :: b :: r => lt b a = false ∧ chain lt (b :: r)
theorem chain_get : ∀ {l : List α}, chain lt l → ∀ i (h : i + 1 < l.length), lt l[i + 1] l[i] = false
  | a :: b :: r, hc, 0, h => hc.1
  | a :: b :: r, hc, i + 1, h => chain_get hc.2 i (by simpa using h)
  | [a], _, i, h => by simp at h
  | [], _, i, h => by simp at h
theorem chain_of : ∀ {l : List α}, (∀ i (h : i + 1 < l.length), lt l[i + 1] l[i] = false) → chain lt l
  | [], _ => trivial
  | [a], _ => trivial
  | a :: b :: r, h => ⟨h 0 (by simp), chain_of (fun i hi => h (i + 1) (by simpa using hi))⟩
theorem posI_right : ∀ {k : Nat}, k ≤ l.length → ∀ j, posI lt x l k ≤ j → (h : j < k) → (hl : j < l.length) → lt x l[j] = true
  | 0, _, j, _, h, _ => by omega
  | k + 1, hk, j, hj, h, hl => by
    cases hh : lt x (l[k]'(by omega)) with
    | true =>
      rw [posI_t (by omega) hh] at hj
      rcases Nat.lt_or_ge j k with h1 | h1
      · exact posI_right (by omega) j hj h1 hl
      · have : j = k := by omega
        subst this; exact hh
    | false => rw [posI_f (by omega) hh] at hj; omega
theorem posI_left : ∀ {k : Nat}, k ≤ l.length → (h : 0 < posI lt x l k) → (hl : posI lt x l k - 1 < l.length) → lt x l[posI lt x l k - 1] = false
  | 0, _, h, _ => by simp [posI] at h
  | k + 1, hk, h, hl => by
    cases hh : lt x (l[k]'(by omega)) with
    | true =>
      have e : posI lt x l (k + 1) = posI lt x l k := posI_t (by omega) hh
      have := posI_left (k := k) (by omega) (by omega) (by omega)
      simp only [e]; exact this
    | false =>
      have e : posI lt x l (k + 1) = k + 1 := posI_f (by omega) hh
      simp only [e]; exact hh
theorem insP_chain {p : Nat} (hle : p ≤ l.length) (g : ∀ i (h : i + 1 < l.length), lt l[i + 1] l[i] = false) (hL : ∀ i (h : i < l.length), i + 1 = p → lt x l[i] = false) (hR : ∀ h : p < l.length, lt l[p] x = false) : chain lt (l.take p ++ x :: l.drop p) := by
  refine chain_of fun i hi => ?_
  have ht : (l.take p).length = p := by rw [List.length_take]; omega
  have hi : i + 1 < l.length + 1 := by simp at hi; omega
  rcases Nat.lt_trichotomy (i + 1) p with h | h | h
  · rw [List.getElem_append_left (by omega), List.getElem_append_left (by omega), List.getElem_take, List.getElem_take]
    exact g i (by omega)
  · rw [List.getElem_append_right (by omega), List.getElem_append_left (by omega), List.getElem_take]
    simp only [ht, show i + 1 - p = 0 from by omega, List.getElem_cons_zero]
    exact hL i (by omega) h
  · rcases Nat.eq_or_lt_of_le (show p ≤ i by omega) with h2 | h2
    · subst h2
      rw [List.getElem_append_right (by omega), List.getElem_append_right (by omega)]
      simp only [ht, Nat.sub_self, List.getElem_cons_zero, show p + 1 - p = 0 + 1 from by omega, List.getElem_cons_succ, List.getElem_drop, Nat.add_zero]
      exact hR (by omega)
    · rw [List.getElem_append_right (by omega), List.getElem_append_right (by omega)]
      obtain ⟨d, rfl⟩ : ∃ d, i = p + 1 + d := ⟨i - (p + 1), by omega⟩
      simp only [ht, show p + 1 + d + 1 - p = d + 1 + 1 from by omega, show p + 1 + d - p = d + 1 from by omega, List.getElem_cons_succ, List.getElem_drop]
      have := g (p + d) (by omega)
      simpa only [show p + (d + 1) = p + d + 1 from by omega] using this
theorem insS_chain (hs : ∀ a b : α, lt a b = true → lt b a = false) (hc : chain lt l) : chain lt (insS lt l x) := by
  have hle := @posI_le α lt x l l.length
  refine insP_chain hle (chain_get hc) (fun i hi hp => ?_) (fun h => hs _ _ (posI_right (Nat.le_refl _) _ (Nat.le_refl _) h h))
  have := posI_left (lt := lt) (x := x) (Nat.le_refl l.length) (by omega) (by omega)
  simpa only [show posI lt x l l.length - 1 = i from by omega] using this
theorem sortS_chain (hs : ∀ a b : α, lt a b = true → lt b a = false) : chain lt (sortS lt l) := by
  unfold sortS
  suffices h : ∀ (l a : List α), chain lt a → chain lt (l.foldl (insS lt) a) from h l [] trivial
  intro l
  induction l with
  | nil => exact fun a h => h
  | cons x l ih => exact fun a h => ih _ (insS_chain hs h)
/-- A value on its way through what is sorted. -/
def dat (S : List α) (x : α) (rest : List α) (j : Nat) : List α := S.take j ++ x :: (S.drop j ++ rest)
theorem dat_len {S rest : List α} {j : Nat} (h : j ≤ S.length) : (dat S x rest j).length = S.length + 1 + rest.length := by unfold dat; simp; omega
theorem dat_0 {S rest : List α} : dat S x rest S.length = S ++ x :: rest := by unfold dat; simp
theorem dat_x {S rest : List α} {j : Nat} (h : j ≤ S.length) : (dat S x rest j)[j]? = some x := by
  unfold dat; rw [List.getElem?_append_right (by rw [List.length_take]; omega)]; simp [List.length_take, Nat.min_eq_left h]
theorem dat_y {S rest : List α} {j : Nat} (h : j + 1 ≤ S.length) : (dat S x rest (j + 1))[j]? = some (S[j]'(by omega)) := by
  unfold dat; rw [List.getElem?_append_left (by rw [List.length_take]; omega)]; simp [List.getElem?_take]
theorem dat_step {S rest : List α} {j : Nat} (h : j + 1 ≤ S.length) : ((dat S x rest (j + 1)).set (j + 1) (S[j]'(by omega))).set j x = dat S x rest j := by
  unfold dat
  have e1 : S.take (j + 1) = S.take j ++ [S[j]'(by omega)] := take_succ (by omega)
  have e2 : S.drop j = (S[j]'(by omega)) :: S.drop (j + 1) := List.drop_eq_getElem_cons (by omega)
  have ht : (S.take j).length = j := by rw [List.length_take]; omega
  rw [e1, e2, List.append_assoc, List.set_append_right _ _ (by omega), List.set_append_right _ _ (by omega), ht]
  rw [show j + 1 - j = 0 + 1 from by omega, Nat.sub_self]
  simp
  rw [e2]; rfl
theorem dat_end {S rest : List α} : dat S x rest (posI lt x S S.length) = insS lt S x ++ rest := by unfold dat insS; simp
end
/-! The order of rows. -/
theorem less_asym : ∀ {a b : Str}, Op.bytesLess a b = true → Op.bytesLess b a = false
  | _, [], h => by rw [Op.bytesLess] at h; cases h
  | [], b :: y, _ => by rw [Op.bytesLess]
  | a :: x, b :: y, h => by
    rw [Op.bytesLess] at h ⊢
    simp only [Bool.or_eq_true, decide_eq_true_eq, Bool.and_eq_true, beq_iff_eq, Bool.or_eq_false_iff, decide_eq_false_iff_not] at h ⊢
    rcases h with h | ⟨h, h1⟩
    · refine ⟨fun h2 => absurd (UInt8.lt_trans h h2) (UInt8.lt_irrefl _), ?_⟩
      cases hb : (b == a) with
      | false => rfl
      | true => rw [beq_iff_eq] at hb; subst hb; exact absurd h (UInt8.lt_irrefl _)
    · subst h; rw [less_asym h1]; exact ⟨UInt8.lt_irrefl _, by simp⟩
theorem less_tot : ∀ {a b : Str}, a ≠ b → Op.bytesLess a b = false → Op.bytesLess b a = true
  | [], [], h, _ => absurd rfl h
  | a :: x, [], _, _ => by rw [Op.bytesLess]
  | [], b :: y, _, h => by rw [Op.bytesLess] at h; cases h
  | a :: x, b :: y, hn, h => by
    rw [Op.bytesLess] at h ⊢
    simp only [Bool.or_eq_true, decide_eq_true_eq, Bool.and_eq_true, beq_iff_eq, Bool.or_eq_false_iff, decide_eq_false_iff_not] at h ⊢
    obtain ⟨h1, h2⟩ := h
    by_cases hab : a = b
    · subst hab
      right
      refine ⟨rfl, less_tot (fun e => hn (by rw [e])) ?_⟩
      simpa using h2
    · left
      have : a.toNat ≠ b.toNat := fun e => hab (UInt8.toNat_inj.1 e)
      rw [UInt8.lt_iff_toNat_lt] at h1 ⊢; omega
theorem cmpI_anti {a b : Int} : cmpI a b = - cmpI b a := by unfold cmpI; split <;> split <;> (try split) <;> (try split) <;> omega
theorem cmpS_anti {a b : Str} : cmpS a b = - cmpS b a := by
  unfold cmpS
  by_cases h : a = b
  · rw [if_pos h, if_pos h.symm]; rfl
  · rw [if_neg h, if_neg (Ne.symm h)]
    cases hl : Op.bytesLess a b with
    | true => rw [less_asym hl]; rfl
    | false => rw [less_tot h hl]; rfl
theorem cmpV_anti {a b : GValue} : cmpV a b = - cmpV b a := by
  unfold cmpV
  by_cases h : a.Kind = b.Kind
  · by_cases h2 : a.N = b.N
    · simp only [h, h2, ne_eq, not_true_eq_false, if_false]; exact cmpS_anti
    · have h3 : ¬ b.N = a.N := Ne.symm h2
      simp only [h, ne_eq, not_true_eq_false, if_false, h2, not_false_eq_true, if_true, h3]; exact cmpI_anti
  · have h3 : ¬ b.Kind = a.Kind := Ne.symm h
    simp only [ne_eq, h, h3, not_false_eq_true, if_true]; exact cmpI_anti
def cmpR (k : Int) (a b : GRow) : Int := orF [cmpV (colF a k) (colF b k), cmpI a.Id b.Id]
theorem cmpR_eq {k : Int} {a b : GRow} : cmpR k a b = if cmpV (colF a k) (colF b k) ≠ 0 then cmpV (colF a k) (colF b k) else cmpI a.Id b.Id := by
  unfold cmpR
  show (if _ then _ else if cmpI a.Id b.Id ≠ 0 then cmpI a.Id b.Id else 0) = _
  split
  · rfl
  · split
    · rfl
    · rename_i h; exact (Classical.not_not.1 h).symm
theorem cmpR_anti {k : Int} {a b : GRow} : cmpR k a b = - cmpR k b a := by
  rw [cmpR_eq, cmpR_eq]
  have h := @cmpV_anti (colF a k) (colF b k)
  split
  · rw [if_pos (by omega)]; exact h
  · rw [if_neg (by omega)]; exact cmpI_anti
def ltR (k : Int) (a b : GRow) : Bool := decide (cmpR k a b < 0)
theorem ltR_asym {k : Int} : ∀ a b : GRow, ltR k a b = true → ltR k b a = false := fun a b h => by
  unfold ltR at h ⊢
  have h := of_decide_eq_true h
  have := @cmpR_anti k a b
  exact decide_eq_false (by omega)
theorem cmpV_ids {a b : Int} : cmpV (vI a) (vI b) = cmpI a b := by
  unfold cmpV vI
  by_cases h : a = b
  · subst h; simp [cmpS, cmpI]
  · simp [h]
/-- Drawn rows. -/
structure RG (l : List GRow) (m : Int) : Prop where
  ln : (l.length : Int) ≤ m
  ok : ∀ r ∈ l, rowOK r = true
  up : ∀ i (h : i + 1 < l.length), l[i].Id < l[i + 1].Id
  id : ∀ r ∈ l, r.Id < m
theorem rowOK_id {r : GRow} {i : Int} (h : rowOK r = true) (hi : 0 ≤ i ∧ i ≤ 1000) : rowOK ⟨i, r.N, r.Name⟩ = true := by
  unfold rowOK at h ⊢
  simp only [Bool.and_eq_true] at h ⊢
  obtain ⟨⟨⟨⟨_, h2⟩, h3⟩, h4⟩, h5⟩ := h
  exact ⟨⟨⟨⟨inR_iff.2 hi, h2⟩, h3⟩, h4⟩, h5⟩
theorem RG.app {l : List GRow} {m : Int} {r : GRow} (h : RG l m) (hr : rowOK r = true) (he : r.Id = m) : RG (l ++ [r]) (m + 1) := ⟨by simp; have := h.ln; omega, fun x hx => by
    rcases List.mem_append.1 hx with q | q
    · exact h.ok x q
    · rw [List.mem_singleton] at q; subst q; exact hr, fun i hi => by
    rw [List.length_append, List.length_singleton] at hi
    rcases Nat.lt_or_ge (i + 1) l.length with q | q
    · rw [List.getElem_append_left (by omega), List.getElem_append_left (by omega)]; exact h.up i q
    · have : i + 1 = l.length := by omega
      rw [List.getElem_append_left (by omega), List.getElem_append_right (by omega)]
      simp only [this, Nat.sub_self, List.getElem_singleton]
      have := h.id _ (List.getElem_mem (show i < l.length by omega)); omega, fun x hx => by
    rcases List.mem_append.1 hx with q | q
    · have := h.id x q; omega
    · rw [List.mem_singleton] at q; subst q; omega⟩
theorem RG.more {l : List GRow} {m : Int} (h : RG l m) : RG l (m + 1) := ⟨by have := h.ln; omega, h.ok, h.up, fun r hr => by have := h.id r hr; omega⟩
theorem RG.nil : RG [] 0 := ⟨by simp, fun _ h => (by cases h), fun i h => (by simp at h), fun _ h => (by cases h)⟩
end Go.AM

/- Calls of closures that are plain data, in a region that draws its order. -/
namespace Go.AM
theorem AL_app {X : Nat → Prop} {β : Names} {w : World} : ∀ {xs ys : List AV} {us vs : List Value}, AL X β w xs us → AL X β w ys vs → AL X β w (xs ++ ys) (us ++ vs)
  | [], ys, us, vs, h1, h2 => by rw [AL] at h1; subst h1; exact h2
  | x :: xs, ys, us, vs, h1, h2 => by
    rw [AL] at h1
    obtain ⟨v, r, rfl, h3, h4⟩ := h1
    rw [List.cons_append, List.cons_append, AL]
    exact ⟨v, _, rfl, h3, AL_app h4 h2⟩
theorem ax_callvq {C : Cx} {gs : List Gd} {K : St → Prop} {sl : List (Nat × AV)} {own : List (Nat × OB)} {d : Nat} {x : XA} {f : Nat} {args : List XA} {its : List XI} {vs args0 : List AV} {ds : List D} {r : AV} {P : Program} {mv : Nat → Bool} {v : Value}
    (hx : evA sl x = some (.d (.fn (.func f) ds))) (hb : hasBody C.P f = true) (ha : evL sl args = some vs) (hcon : Con P mv f args0 [] (fun r' h' => r' = r ∧ h' = [])) (hP : C.P = P) (hl : LAL own (vs ++ ds.map AV.d) args0) (hv : scVal r = some v)
    (h : AXI C true gs its ⟨(d, r) :: sl, own⟩ K) : AXI C true gs (.callv (some d) x args :: its) ⟨sl, own⟩ K := by
  intro ops W R lo i k hf rest a w S G H
  subst hP
  obtain ⟨m, h1, h2, h3, h4⟩ := fitIs_cons hf
  obtain ⟨o, y, as, ts, ho, hop, hg, hd, hfr, hy, hfx, rfl⟩ := callv_fit h1
  rw [range_split (by omega) h4, range_one, List.append_assoc, List.singleton_append]
  obtain ⟨β, S⟩ := S
  have hF := AR_of_fitA S hy hx
  rw [AR, DR] at hF
  obtain ⟨cv, hF, _⟩ := hF
  have e1 : as.map a.eval ++ cv = (as.toList.map a.eval ++ cv.toList).toArray := by simp
  refine R.callq rfl i _ a w o f (as.map a.eval ++ cv) v ho (wanted_of hg G) ?_ ?_
  · intro w' hw'
    have S' := S.ext hw'
    have hA := AL_of_fits S' hfx ha
    have hF' := AR_of_fitA S' hy hx
    rw [AR, DR] at hF'
    obtain ⟨cv', hF', hC⟩ := hF'
    have : cv' = cv := by rw [hF] at hF'; cases hF'; rfl
    subst this
    have hC := DL_AL (X := C.X) (β := β) hC
    refine ⟨by simp [execOp, hop, resolve, hF, Deferred.ofValue, invoke, callFunc_run hb], ?_⟩
    rw [e1]
    have hA' := LAL.al (X' := C.X) (β' := noN) S'.hr (fun b hb => ⟨hb.1, fun e he => by cases he⟩) (fun e b _ hb => ⟨S'.hr.notX e b hb, fun e he => by cases he⟩) hl (AL_app hA hC)
    refine (hcon C.X noN w' _ (fun b hb => by have := S'.xlt b hb; have := S'.fr.size; omega) (fun e b h => by cases h) ⟨fun e e' b h => (by cases h), fun e b h => (by cases h), fun e b h => (by cases h), fun e ob h => (by simp [get] at h)⟩ hA').mono ?_
    rintro e w'' ⟨u, r', h', β', he, ⟨rfl, rfl⟩, hr, _, F, _⟩
    rw [(scVal_iff hv _ _ _ _).1 hr] at he
    exact ⟨he, hw'.trans ⟨F.os, F.tape, F.output, F.size, fun b hb => F.same b hb (fun e h => by cases h)⟩⟩
  · rw [hd]
    exact h ops W R lo (i + 1) k h2 rest _ w ⟨β, S.put (dstFree_lt hfr d rfl) ((scVal_iff hv _ _ _ _).2 rfl)⟩ (G.put hfr) H
theorem datAt {α : Type} {row : α → List D} {l : List α} {j : Nat} {x : α} (h : l[j]? = some x) : (l.map row)[j]? = some (row x) := by rw [List.getElem?_map, h]; rfl
theorem sort_at {α : Type} {lt : α → α → Bool} {xs : List α} {k : Nat} (hk : k < xs.length) : sortS lt (xs.take k) ++ xs.drop k = dat (sortS lt (xs.take k)) xs[k] (xs.drop (k + 1)) k := by
  have e : (sortS lt (xs.take k)).length = k := by rw [sortS_len, List.length_take]; omega
  have := @dat_0 α xs[k] (sortS lt (xs.take k)) (xs.drop (k + 1))
  rw [e] at this
  rw [this, ← List.drop_eq_getElem_cons hk]
theorem sort_to {α : Type} {lt : α → α → Bool} {xs : List α} {k j : Nat} (hk : k < xs.length) (hj : posI lt xs[k] (sortS lt (xs.take k)) k = j) : dat (sortS lt (xs.take k)) xs[k] (xs.drop (k + 1)) j = sortS lt (xs.take (k + 1)) ++ xs.drop (k + 1) := by
  have e : (sortS lt (xs.take k)).length = k := by rw [sortS_len, List.length_take]; omega
  rw [sortS_take hk, ← dat_end, e, hj]
theorem sort_mem {α : Type} {lt : α → α → Bool} {xs : List α} {k j : Nat} {z : α} (hz : z ∈ xs) : (sortS lt (xs.take k)).getD j z ∈ xs := by
  rcases Nat.lt_or_ge j (sortS lt (xs.take k)).length with h | h
  · rw [show (sortS lt (xs.take k)).getD j z = (sortS lt (xs.take k))[j] from by simp [List.getD, h]]
    exact List.mem_of_mem_take (sortS_mem.1 (List.getElem_mem h))
  · rw [show (sortS lt (xs.take k)).getD j z = z from by simp [List.getD, h]]; exact hz
theorem sort_one {α : Type} {lt : α → α → Bool} {xs : List α} : sortS lt (xs.take 1) ++ xs.drop 1 = xs := by
  cases xs with
  | nil => rfl
  | cons x xs => simp [sortS, insS, posI]
theorem getD_in {α : Type} {l : List α} {j : Nat} {z : α} (h : j < l.length) : l.getD j z = l[j] := by simp [List.getD, h]
theorem dat_yD {α : Type} {S rest : List α} {x : α} {j : Nat} (h0 : 0 < j) (h : j ≤ S.length) : (dat S x rest j)[j - 1]? = some (S.getD (j - 1) x) := by
  obtain ⟨i, rfl⟩ : ∃ i, j = i + 1 := ⟨j - 1, by omega⟩
  rw [show i + 1 - 1 = i from rfl, dat_y h, getD_in (by omega)]
theorem lal_ds {own : List (Nat × OB)} : ∀ (ds : List D), LAL own (ds.map AV.d) (ds.map AV.d)
  | [] => .nil
  | x :: xs => .cons (.d x) (lal_ds xs)
theorem lal_two {own : List (Nat × OB)} {x y : AV} (hx : plain x = true) (hy : plain y = true) (ds : List D) : LAL own (x :: y :: ds.map AV.d) (x :: y :: ds.map AV.d) := .cons (la_id x hx) (.cons (la_id y hy) (lal_ds ds))
theorem app1p {α : Type} {row : α → List D} {xs : List α} {p : Nat} {y : α} {r : List D} (hl : (xs.take p).length = p) (h : r = row y := by rfl) : ((xs.take p).map row).take p ++ ([r].drop 0).take 1 = (xs.take p ++ [y]).map row := by
  subst h
  rw [List.take_of_length_le (l := (xs.take p).map row) (by rw [List.length_map]; omega)]; simp
theorem insA_app {α : Type} {row : α → List D} {xs : List α} {p i : Nat} {y : α} (h : p ≤ xs.length) (hi : xs.length = i := by omega) : (((xs.take p ++ [y]).map row).take (p + 1)) ++ ((xs.map row).drop p).take (i - p) = (insA xs p y).map row := by
  subst hi
  rw [List.take_of_length_le (l := (xs.take p ++ [y]).map row) (by simp; omega), List.take_of_length_le (l := (xs.map row).drop p) (by simp)]
  unfold insA; simp
theorem q_addB {C : Cx} {st : St} {x y : XA} {b : UInt8} (hx : evA st.sl x = some (int 0)) (hy : evA st.sl y = some (int b.toNat)) : QStep C st (.bin .add x y) (int b.toNat) :=
  q_as (q_ibin hx hy rfl) (by have := b.toNat_lt; rw [wi (by omega) (by omega)]; exact congrArg AM.int (by omega))
theorem bnd_u8 (b : UInt8) : ∃ m : Int, 0 ≤ m ∧ m ≤ 255 ∧ mkRes [int b.toNat] = int m := ⟨_, by omega, by have := b.toNat_lt; omega, rfl⟩
/-! Turning round. -/
section
variable {α : Type}
def swpL (l : List α) (i j : Nat) : List α := match l[i]?, l[j]? with
  | some a, some b => (l.set i b).set j a
  | _, _ => l
theorem swpL_at {l : List α} {i j : Nat} (hi : i < l.length) (hj : j < l.length) : swpL l i j = (l.set i l[j]).set j l[i] := by
  unfold swpL; rw [List.getElem?_eq_getElem hi, List.getElem?_eq_getElem hj]
theorem swpL_len {l : List α} {i j : Nat} : (swpL l i j).length = l.length := by unfold swpL; split <;> simp
def revK (l : List α) : Nat → List α
  | 0 => l
  | i + 1 => swpL (revK l i) i (l.length - 1 - i)
theorem revK_len {l : List α} : ∀ {i : Nat}, (revK l i).length = l.length
  | 0 => rfl
  | i + 1 => by rw [revK, swpL_len, revK_len]
theorem revK_get {l : List α} : ∀ {i : Nat}, 2 * i ≤ l.length → ∀ k (hk : k < l.length), (revK l i)[k]? = if k < i ∨ l.length - 1 - k < i then l[l.length - 1 - k]? else l[k]?
  | 0, _, k, hk => by rw [if_neg (by omega)]; rfl
  | i + 1, h, k, hk => by
    have ih := revK_get (l := l) (i := i) (by omega)
    have hl := @revK_len α l i
    have e1 := ih i (by omega)
    have e2 := ih (l.length - 1 - i) (by omega)
    rw [if_neg (by omega), List.getElem?_eq_getElem (show i < (revK l i).length by omega)] at e1
    rw [if_neg (by omega), List.getElem?_eq_getElem (show l.length - 1 - i < (revK l i).length by omega)] at e2
    rw [revK, swpL_at (by omega) (by omega), List.getElem?_set, List.getElem?_set]
    by_cases h1 : l.length - 1 - i = k
    · rw [if_pos h1, if_pos (by rw [List.length_set]; omega), e1, if_pos (by omega)]; congr 1; omega
    · rw [if_neg h1]
      by_cases h2 : i = k
      · rw [if_pos h2, if_pos (by omega), e2, if_pos (by omega)]; congr 1; omega
      · rw [if_neg h2, ih k hk]
        by_cases h3 : k < i ∨ l.length - 1 - k < i
        · rw [if_pos h3, if_pos (by omega)]
        · rw [if_neg h3, if_neg (by omega)]
theorem revK_all {l : List α} {i : Nat} (h : 2 * i ≤ l.length) (h2 : l.length ≤ 2 * i + 1) : revK l i = l.reverse := by
  apply List.ext_getElem?
  intro k
  rcases Nat.lt_or_ge k l.length with hk | hk
  · rw [revK_get h k hk, List.getElem?_reverse hk]
    split
    · rfl
    · congr 1; omega
  · rw [List.getElem?_eq_none (by rw [revK_len]; exact hk), List.getElem?_eq_none (by simpa using hk)]
end
/-! Sorted rows. -/
def srtF (xs : List GRow) (k : Int) (down : Bool) : List GRow := if down = true then (sortS (ltR k) xs).reverse else sortS (ltR k) xs
theorem srtF_len {xs : List GRow} {k : Int} {down : Bool} : (srtF xs k down).length = xs.length := by unfold srtF; split <;> simp [sortS_len]
theorem ltR_of {k : Int} {a b : GRow} (h : cmpV (colF b k) (colF a k) ≠ 0) : ltR k a b = decide (0 < cmpV (colF b k) (colF a k)) := by
  unfold ltR; rw [cmpR_anti, cmpR_eq, if_pos h]; exact decide_eq_decide.2 (by omega)
theorem ltR_of0 {k : Int} {a b : GRow} (h : cmpV (colF b k) (colF a k) = 0) : ltR k a b = decide (0 < cmpV (vI b.Id) (vI a.Id)) := by
  unfold ltR; rw [cmpR_anti, cmpR_eq, if_neg (by omega), cmpV_ids]; exact decide_eq_decide.2 (by omega)
def upTo (R : List GRow) : Bool := R.all rowOK
theorem RG.rowok {l : List GRow} {m : Int} (h : RG l m) {i : Nat} (hi : i < l.length) : rowOK l[i] = true := h.ok _ (List.getElem_mem hi)
noncomputable def fndK (R : List GRow) (x : GRow) (k : Nat) : Bool := (R.take k).any (fun y => eqb y x)
theorem fndK_succ {R : List GRow} {x : GRow} {k : Nat} (hk : k < R.length) : fndK R x (k + 1) = (fndK R x k || eqb R[k] x) := by
  unfold fndK; rw [take_succ hk, List.any_append]; simp
theorem fndK_all {R : List GRow} {x : GRow} (h : x ∈ R) : fndK R x R.length = true := by
  unfold fndK; rw [List.take_length]; exact List.any_eq_true.2 ⟨x, h, eqb_rfl x⟩
theorem up_le {xs : List GRow} {i : Nat} (h : i + 1 < (sortS (ltR 1) xs).length) : ¬ 0 < cmpV ((sortS (ltR 1) xs)[i]).N ((sortS (ltR 1) xs)[i + 1]).N := fun hc => by
  have h1 := chain_get (sortS_chain (l := xs) (lt := ltR 1) ltR_asym) i h
  rw [ltR_of (by show cmpV _ _ ≠ 0; show cmpV ((sortS (ltR 1) xs)[i]).N ((sortS (ltR 1) xs)[i + 1]).N ≠ 0; omega)] at h1
  have h1 := of_decide_eq_false h1
  exact h1 hc
theorem row_sz {r : GRow} (h : rowOK r = true) : r.N.T.length ≤ 1048576 ∧ r.Name.T.length ≤ 1048576 := by
  have hr := RR.of h
  have h1 := hr.n.l; have h2 := hr.m.l
  omega
theorem getD_row {xs : List GRow} {k : Nat} (h : k < xs.length) : xs.getD k .zero = xs[k] := getD_in h
theorem mapAtD {xs : List GRow} {k : Nat} (h : k < xs.length) : (xs.map GRow.row)[k]? = some (GRow.row (xs.getD k .zero)) := by rw [getD_row h]; exact mapAt h
theorem down_at {R : List GRow} {k : Int} {i : Nat} (h : i < R.length) (h1 : i < (srtF R k false).length) (h2 : R.length - 1 - i < (srtF R k true).length) : (srtF R k false)[i] = (srtF R k true)[R.length - 1 - i] := by
  have e : (sortS (ltR k) R).length = R.length := sortS_len
  apply Option.some.inj
  rw [← List.getElem?_eq_getElem h1, ← List.getElem?_eq_getElem h2]
  show (sortS (ltR k) R)[i]? = (sortS (ltR k) R).reverse[R.length - 1 - i]?
  rw [List.getElem?_reverse (by omega)]; congr 1; omega
theorem row_val {r : GRow} (h : rowOK r = true) : valueOK r.N = true ∧ valueOK r.Name = true := by
  unfold rowOK at h
  simp only [Bool.and_eq_true] at h
  exact ⟨h.1.1.1.2, h.1.1.2⟩
theorem up_le2 {R : List GRow} {k : Int} {i : Nat} (hk : k = 1) (h0 : 0 < i) (h1 : i - 1 < (srtF R k false).length) (h2 : i < (srtF R k false).length) : ¬ 0 < cmpV ((srtF R k false)[i - 1]).N ((srtF R k false)[i]).N := by
  subst hk
  obtain ⟨j, rfl⟩ : ∃ j, i = j + 1 := ⟨i - 1, by omega⟩
  exact up_le (xs := R) (i := j) h2
theorem up_in {R : List GRow} {k : Int} {i : Nat} (h1 : i < (srtF R k false).length) : (srtF R k false)[i] ∈ R := by
  have : (srtF R k false)[i] ∈ srtF R k false := List.getElem_mem h1
  exact (sortS_mem (lt := ltR k)).1 this
end Go.AM

