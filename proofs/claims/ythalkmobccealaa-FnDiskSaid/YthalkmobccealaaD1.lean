/- Plain laws about strings, marks, types of the program and what its functions compute; readings of arguments (part 1). -/
import Derived.Test.YthalkmobccealaaD
set_option linter.unusedVariables false
set_option linter.unusedSimpArgs false
/- Plain laws: changes that are done one by one. -/
namespace Go.AM
def posR (xs : List GRow) (id : Int) : Nat := (xs.takeWhile (fun r => decide (r.Id < id))).length
def atR (xs : List GRow) (id : Int) : Bool := match xs[posR xs id]? with
  | some r => decide (r.Id = id)
  | none => false
def sortR : List GRow → Prop
  | [] => True
  | [_] => True
  | a :: b :: r => a.Id < b.Id ∧ sortR (b :: r)
theorem sortR_tail {a : GRow} {xs : List GRow} (h : sortR (a :: xs)) : sortR xs := by
  cases xs with
  | nil => exact True.intro
  | cons b r => exact h.2
theorem sortR_head {a : GRow} {xs : List GRow} (h : sortR (a :: xs)) : ∀ x ∈ xs, a.Id < x.Id := by
  induction xs generalizing a with
  | nil => intro x hx; cases hx
  | cons b r ih =>
    intro x hx
    rcases List.mem_cons.1 hx with rfl | hx
    · exact h.1
    · exact Int.lt_trans h.1 (ih h.2 x hx)
theorem sortR_cons {a : GRow} {xs : List GRow} (h : sortR xs) (ha : ∀ x ∈ xs, a.Id < x.Id) : sortR (a :: xs) := by
  cases xs with
  | nil => exact True.intro
  | cons b r => exact ⟨ha b (List.mem_cons_self ..), h⟩
theorem posR_le {xs : List GRow} {id : Int} : posR xs id ≤ xs.length := by
  unfold posR
  induction xs with
  | nil => simp
  | cons a xs ih =>
    rw [List.takeWhile_cons]
    split
    · simp only [List.length_cons]; omega
    · simp
theorem posR_spec {id : Int} : ∀ {xs : List GRow}, sortR xs → (∀ j (h : j < xs.length), j < posR xs id → xs[j].Id < id) ∧ (∀ j (h : j < xs.length), posR xs id ≤ j → id ≤ xs[j].Id)
  | [], _ => ⟨fun j h => by simp at h, fun j h => by simp at h⟩
  | a :: xs, hs => by
    obtain ⟨h1, h2⟩ := posR_spec (id := id) (sortR_tail hs)
    unfold posR at *
    rw [List.takeWhile_cons]
    by_cases ha : a.Id < id
    · rw [if_pos (by simpa using ha)]
      have hlc : (a :: List.takeWhile (fun r => decide (r.Id < id)) xs).length = (List.takeWhile (fun r => decide (r.Id < id)) xs).length + 1 := by simp
      refine ⟨fun j hj hlt => ?_, fun j hj hle => ?_⟩
      · cases j with
        | zero => exact ha
        | succ j => exact h1 j (by simpa using hj) (by omega)
      · cases j with
        | zero => omega
        | succ j => exact h2 j (by simpa using hj) (by omega)
    · rw [if_neg (by simpa using ha)]
      refine ⟨fun j hj hlt => by simp at hlt, fun j hj _ => ?_⟩
      cases j with
      | zero => simpa using ha
      | succ j =>
        have := sortR_head hs _ (List.getElem_mem (show j < xs.length by simpa using hj))
        have e : (a :: xs)[j + 1].Id = (xs[j]'(by simpa using hj)).Id := rfl
        omega
theorem atR_iff {xs : List GRow} {id : Int} : atR xs id = true ↔ ∃ h : posR xs id < xs.length, xs[posR xs id].Id = id := by
  unfold atR
  by_cases h : posR xs id < xs.length
  · rw [List.getElem?_eq_getElem h]
    simp [h]
  · rw [List.getElem?_eq_none (by omega)]
    simp [h]
/-- The place is the only one that parts what is less. -/
theorem posR_of {xs : List GRow} {id : Int} {k : Nat} (hs : sortR xs) (hk : k ≤ xs.length) (h1 : ∀ j (h : j < xs.length), j < k → xs[j].Id < id) (h2 : ∀ h : k < xs.length, ¬ xs[k].Id < id) : k = posR xs id := by
  obtain ⟨p1, p2⟩ := posR_spec (id := id) hs
  have hp := @posR_le xs id
  rcases Nat.lt_trichotomy k (posR xs id) with h | h | h
  · exact absurd (p1 k (by omega) h) (h2 (by omega))
  · exact h
  · have a := h1 (posR xs id) (by omega) h
    have b := p2 (posR xs id) (by omega) (Nat.le_refl _)
    omega
def pinR (xs : List GRow) (r : GRow) : List GRow := if atR xs r.Id = true then xs.set (posR xs r.Id) r else insA xs (posR xs r.Id) r
def poutR (xs : List GRow) (id : Int) : List GRow := if atR xs id = true then delA xs (posR xs id) else xs
theorem sortR_app {xs ys : List GRow} (hx : sortR xs) (hy : sortR ys) (h : ∀ a ∈ xs, ∀ b ∈ ys, a.Id < b.Id) : sortR (xs ++ ys) := by
  induction xs with
  | nil => exact hy
  | cons a xs ih =>
    rw [List.cons_append]
    refine sortR_cons (ih (sortR_tail hx) (fun c hc => h c (List.mem_cons_of_mem _ hc))) (fun x hxm => ?_)
    rcases List.mem_append.1 hxm with g | g
    · exact sortR_head hx x g
    · exact h a (List.mem_cons_self ..) x g
theorem sortR_take {xs : List GRow} (h : sortR xs) (k : Nat) : sortR (xs.take k) := by
  induction xs generalizing k with
  | nil => simp; exact True.intro
  | cons a xs ih =>
    cases k with
    | zero => exact True.intro
    | succ k =>
      rw [List.take_succ_cons]
      exact sortR_cons (ih (sortR_tail h) k) (fun x hx => sortR_head h x (List.mem_of_mem_take hx))
theorem sortR_drop {xs : List GRow} (h : sortR xs) (k : Nat) : sortR (xs.drop k) := by
  induction k generalizing xs with
  | zero => exact h
  | succ k ih =>
    cases xs with
    | nil => exact True.intro
    | cons a xs => rw [List.drop_succ_cons]; exact ih (sortR_tail h)
theorem take_lt {xs : List GRow} {id : Int} (hs : sortR xs) : ∀ a ∈ xs.take (posR xs id), a.Id < id := by
  intro a ha
  obtain ⟨j, hj, rfl⟩ := List.mem_iff_getElem.1 ha
  rw [List.getElem_take]
  simp only [List.length_take] at hj
  exact (posR_spec hs).1 j (by omega) (by omega)
theorem drop_ge {xs : List GRow} {id : Int} (hs : sortR xs) : ∀ a ∈ xs.drop (posR xs id), id ≤ a.Id := by
  intro a ha
  obtain ⟨j, hj, rfl⟩ := List.mem_iff_getElem.1 ha
  rw [List.getElem_drop]
  simp only [List.length_drop] at hj
  exact (posR_spec hs).2 _ (by omega) (by omega)
theorem putR_eq {xs : List GRow} {r : GRow} : pinR xs r = xs.take (posR xs r.Id) ++ r :: xs.drop (if atR xs r.Id = true then posR xs r.Id + 1 else posR xs r.Id) := by
  unfold pinR
  split
  · rename_i h
    obtain ⟨hk, _⟩ := atR_iff.1 h
    apply List.ext_getElem?
    intro n
    simp only [List.getElem?_set, List.getElem?_append, List.length_take, Nat.min_eq_left (Nat.le_of_lt hk)]
    by_cases h1 : posR xs r.Id = n
    · subst h1; simp [hk]
    · rw [if_neg h1]
      by_cases h2 : n < posR xs r.Id
      · simp [h2, List.getElem?_take]
      · rw [if_neg h2]
        obtain ⟨m, rfl⟩ : ∃ m, n = posR xs r.Id + (m + 1) := ⟨n - posR xs r.Id - 1, by omega⟩
        rw [show posR xs r.Id + (m + 1) - posR xs r.Id = m + 1 from by omega, List.getElem?_cons_succ, List.getElem?_drop]
        congr 1; omega
  · rfl
theorem drop_gt {xs : List GRow} {id : Int} (hs : sortR xs) : ∀ b ∈ xs.drop (if atR xs id = true then posR xs id + 1 else posR xs id), id < b.Id := by
  intro b hb
  split at hb
  · rename_i h
    obtain ⟨hk, he⟩ := atR_iff.1 h
    have := sortR_head (a := xs[posR xs id]) (xs := xs.drop (posR xs id + 1)) (by rw [← List.drop_eq_getElem_cons hk]; exact sortR_drop hs _) b hb
    omega
  · rename_i h
    have h1 := drop_ge hs b hb
    rcases Int.lt_or_eq_of_le h1 with h2 | h2
    · exact h2
    · exfalso
      obtain ⟨j, hj, rfl⟩ := List.mem_iff_getElem.1 hb
      simp only [List.length_drop] at hj
      rw [List.getElem_drop] at h2
      refine h (atR_iff.2 ⟨by omega, ?_⟩)
      have h3 := drop_ge hs (xs[posR xs id]'(by omega)) (by rw [List.drop_eq_getElem_cons (show posR xs id < xs.length by omega)]; exact List.mem_cons_self ..)
      rcases Nat.eq_zero_or_pos j with q | q
      · subst q; simpa using h2.symm
      · have h4 := sortR_head (a := xs[posR xs id]'(by omega)) (xs := xs.drop (posR xs id + 1)) (by rw [← List.drop_eq_getElem_cons (by omega)]; exact sortR_drop hs _) (xs[posR xs id + j]'(by omega)) (by
          rw [List.mem_iff_getElem]
          exact ⟨j - 1, by simp only [List.length_drop]; omega, by rw [List.getElem_drop]; congr 1; omega⟩)
        omega
theorem putR_sort {xs : List GRow} {r : GRow} (hs : sortR xs) : sortR (pinR xs r) := by
  rw [putR_eq]
  refine sortR_app (sortR_take hs _) (sortR_cons (sortR_drop hs _) (drop_gt hs)) (fun a ha b hb => ?_)
  have h1 := take_lt hs a ha
  rcases List.mem_cons.1 hb with rfl | hb
  · exact h1
  · have := drop_gt (id := r.Id) hs b hb; omega
theorem dropR_eq {xs : List GRow} {id : Int} : poutR xs id = xs.take (posR xs id) ++ xs.drop (if atR xs id = true then posR xs id + 1 else posR xs id) := by
  unfold poutR
  split
  · rfl
  · rw [List.take_append_drop]
theorem dropR_sort {xs : List GRow} {id : Int} (hs : sortR xs) : sortR (poutR xs id) := by
  rw [dropR_eq]
  exact sortR_app (sortR_take hs _) (sortR_drop hs _) (fun a ha b hb => by have h1 := take_lt hs a ha; have h2 := drop_gt hs b hb; omega)
theorem putR_len {xs : List GRow} {r : GRow} : (pinR xs r).length ≤ xs.length + 1 := by
  unfold pinR; split
  · simp
  · rw [insA_len posR_le]; exact Nat.le_refl _
theorem dropR_len {xs : List GRow} {id : Int} : (poutR xs id).length ≤ xs.length := by
  unfold poutR; split
  · rename_i h; obtain ⟨hk, _⟩ := atR_iff.1 h; rw [delA_len hk]; omega
  · exact Nat.le_refl _
def chF (t : Int) (xs : List GRow) (c : GChange) : List GRow := if c.Table = t then (if c.Gone = true then poutR xs c.Row.Id else pinR xs c.Row) else xs
def foldF (l : List GChange) (t : Int) : Nat → List GRow
  | 0 => []
  | k + 1 => match l[k]? with
    | none => foldF l t k
    | some c => chF t (foldF l t k) c
theorem foldF_succ {l : List GChange} {t : Int} {k : Nat} (h : k < l.length) : foldF l t (k + 1) = chF t (foldF l t k) l[k] := by
  rw [foldF, List.getElem?_eq_getElem h]
theorem chF_sort {t : Int} {xs : List GRow} {c : GChange} (h : sortR xs) : sortR (chF t xs c) := by
  unfold chF; split
  · split
    · exact dropR_sort h
    · exact putR_sort h
  · exact h
theorem foldF_ok {l : List GChange} {t : Int} : ∀ k, sortR (foldF l t k) ∧ (foldF l t k).length ≤ k
  | 0 => ⟨True.intro, Nat.le_refl _⟩
  | k + 1 => by
    obtain ⟨h1, h2⟩ := @foldF_ok l t k
    rw [foldF]
    split
    · exact ⟨h1, by omega⟩
    · refine ⟨chF_sort h1, ?_⟩
      unfold chF; split
      · split
        · have := @dropR_len (foldF l t k) (by assumption : GChange).Row.Id; omega
        · have := @putR_len (foldF l t k) (by assumption : GChange).Row; omega
      · omega
def badC (c : GChange) : Bool := (!inR c.Session 0 2 || !inR c.Table 1 3) || !rowOK c.Row
def chsOK (l : List GChange) : Bool := decide (l.length ≤ 1000) && !l.any badC
def fdF (l : List GChange) (t : Int) : List GRow × Int := if 4096 < l.length then ([], 2) else if chsOK l = false then ([], 1) else if inR t 1 3 = false then ([], 4) else (foldF l t l.length, 0)
theorem fdF_0 {l : List GChange} {t : Int} (h : 4096 < l.length) : fdF l t = ([], 2) := by unfold fdF; rw [if_pos h]
theorem fdF_1 {l : List GChange} {t : Int} (h : ¬ 4096 < l.length) (h1 : chsOK l = false) : fdF l t = ([], 1) := by unfold fdF; rw [if_neg h, if_pos h1]
theorem fdF_2 {l : List GChange} {t : Int} (h : ¬ 4096 < l.length) (h1 : chsOK l = true) (h2 : inR t 1 3 = false) : fdF l t = ([], 4) := by unfold fdF; rw [if_neg h, if_neg (by rw [h1]; simp), if_pos h2]
theorem fdF_3 {l : List GChange} {t : Int} (h : ¬ 4096 < l.length) (h1 : chsOK l = true) (h2 : inR t 1 3 = true) : fdF l t = (foldF l t l.length, 0) := by unfold fdF; rw [if_neg h, if_neg (by rw [h1]; simp), if_neg (by rw [h2]; simp)]
theorem chsOK_1 {l : List GChange} (h : ¬ l.length ≤ 1000) : chsOK l = false := by unfold chsOK; rw [decide_eq_false h]; rfl
theorem chsOK_2 {l : List GChange} (h : chsOK l = true) : l.length ≤ 1000 := by unfold chsOK at h; rw [Bool.and_eq_true] at h; exact of_decide_eq_true h.1
theorem any_hitC {l : List GChange} {k : Nat} (h : k < l.length) (hb : badC l[k] = true) : chsOK l = false := by
  unfold chsOK
  rw [List.any_eq_true.2 ⟨_, List.getElem_mem h, hb⟩]; simp
theorem atR_cmp {xs : List GRow} {id : Int} : hitA (fun r => cmpI r.Id id) xs (posR xs id) = atR xs id := by
  unfold atR hitA
  cases xs[posR xs id]? with
  | none => rfl
  | some s =>
    by_cases h : s.Id = id
    · simp [h, cmpI_z.2]
    · have : ¬ cmpI s.Id id = 0 := fun e => h (cmpI_z.1 e)
      simp [h, this]
section
variable {xs : List GRow} {r : GRow} {id t : Int} {c : GChange}
theorem pinR_1 (h : atR xs r.Id = true) : pinR xs r = xs.set (posR xs r.Id) r := by unfold pinR; rw [if_pos h]
theorem pinR_2 (h : atR xs r.Id = false) : pinR xs r = insA xs (posR xs r.Id) r := by unfold pinR; rw [if_neg (by rw [h]; simp)]
theorem poutR_1 (h : atR xs id = true) : poutR xs id = delA xs (posR xs id) := by unfold poutR; rw [if_pos h]
theorem poutR_2 (h : atR xs id = false) : poutR xs id = xs := by unfold poutR; rw [if_neg (by rw [h]; simp)]
theorem ch_1 (h : ¬ c.Table = t) : chF t xs c = xs := by unfold chF; rw [if_neg h]
theorem ch_2 (h : c.Table = t) (g : c.Gone = true) : chF t xs c = poutR xs c.Row.Id := by unfold chF; rw [if_pos h, if_pos g]
theorem ch_3 (h : c.Table = t) (g : c.Gone = false) : chF t xs c = pinR xs c.Row := by unfold chF; rw [if_pos h, if_neg (by rw [g]; simp)]
theorem rowD {j : Nat} (h : j < xs.length) : (xs.map GRow.row)[j]? = some (GRow.row (xs.getD j .zero)) := by
  rw [mapAt h]; simp [List.getD_eq_getElem?_getD, h]
theorem getD_r {j : Nat} (h : j < xs.length) : xs.getD j .zero = xs[j] := by simp [List.getD_eq_getElem?_getD, h]
theorem atR_t (h : posR xs id < xs.length ∧ (xs.getD (posR xs id) .zero).Id = id) : atR xs id = true := atR_iff.2 ⟨h.1, by rw [← getD_r h.1]; exact h.2⟩
theorem atR_f (h : ¬ posR xs id < xs.length ∨ ¬ (xs.getD (posR xs id) .zero).Id = id) : atR xs id = false := by
  cases e : atR xs id with
  | false => rfl
  | true =>
    obtain ⟨h1, h2⟩ := atR_iff.1 e
    rcases h with h | h
    · exact absurd h1 h
    · rw [getD_r h1] at h; exact absurd h2 h
theorem fold_1 (h : c.Table = t) (ha : atR xs c.Row.Id = true) (g : c.Gone = true) : chF t xs c = xs.take (posR xs c.Row.Id) ++ xs.drop (posR xs c.Row.Id + 1) := by rw [ch_2 h g, dropR_eq, if_pos ha]
theorem fold_2 (h : c.Table = t) (ha : atR xs c.Row.Id = false) (g : c.Gone = true) : chF t xs c = xs.take (posR xs c.Row.Id) ++ xs.drop (posR xs c.Row.Id) := by rw [ch_2 h g, dropR_eq, if_neg (by rw [ha]; simp)]
theorem fold_3 (h : c.Table = t) (ha : atR xs c.Row.Id = true) (g : c.Gone = false) : chF t xs c = (xs.take (posR xs c.Row.Id) ++ [c.Row]) ++ xs.drop (posR xs c.Row.Id + 1) := by rw [ch_3 h g, putR_eq, if_pos ha]; simp
theorem fold_4 (h : c.Table = t) (ha : atR xs c.Row.Id = false) (g : c.Gone = false) : chF t xs c = (xs.take (posR xs c.Row.Id) ++ [c.Row]) ++ xs.drop (posR xs c.Row.Id) := by rw [ch_3 h g, putR_eq, if_neg (by rw [ha]; simp)]; simp
end
theorem row_take {xs : List GRow} {n k : Nat} (h : k ≤ xs.length) (hn : n = xs.length - k) : ((xs.map GRow.row).drop k).take n = (xs.drop k).map GRow.row := by
  rw [List.take_of_length_le (by simp; omega), List.map_drop]
theorem chg_sz {l : List GChange} {n : Nat} (h : szL GChange.sz l ≤ n) : l.length ≤ n ∧ ∀ x ∈ l, x.Row.N.T.length ≤ n ∧ x.Row.Name.T.length ≤ n := by
  have h1 := @szL_len _ GChange.sz l
  refine ⟨by omega, fun x hx => ?_⟩
  have h2 := szL_mem (f := GChange.sz) hx
  have h3 : GChange.sz x = x.Row.N.T.length + x.Row.Name.T.length := rfl
  omega
theorem fdF_len {l : List GChange} {t : Int} : (fdF l t).1.length ≤ 1000 := by
  unfold fdF
  split
  · simp
  · split
    · simp
    · rename_i h
      have h1 : l.length ≤ 1000 := chsOK_2 (by simpa using h)
      split
      · simp
      · have := (@foldF_ok l t l.length).2; dsimp only; omega
theorem chsOK_d {l : List GChange} : (decide ((l.length : Int) ≤ 1000) && !l.any badC) = chsOK l := by
  unfold chsOK
  congr 1
  exact decide_eq_decide.2 (by omega)
end Go.AM

/- Plain laws: the last change of a row stands. -/
namespace Go.AM
theorem mem_pinR {xs : List GRow} {r x : GRow} (hs : sortR xs) : x ∈ pinR xs r ↔ x = r ∨ (x ∈ xs ∧ ¬ x.Id = r.Id) := by
  have h1 := @take_lt xs r.Id hs
  have h2 := @drop_gt xs r.Id hs
  have hx : xs = xs.take (posR xs r.Id) ++ xs.drop (posR xs r.Id) := (List.take_append_drop ..).symm
  rw [putR_eq, List.mem_append, List.mem_cons]
  constructor
  · rintro (h | h | h)
    · exact .inr ⟨List.mem_of_mem_take h, by have := h1 x h; omega⟩
    · exact .inl h
    · refine .inr ⟨List.mem_of_mem_drop h, by have := h2 x h; omega⟩
  · rintro (h | ⟨h, hn⟩)
    · exact .inr (.inl h)
    · rw [hx] at h
      rcases List.mem_append.1 h with h | h
      · exact .inl h
      · right; right
        split
        · rename_i ha
          obtain ⟨hk, he⟩ := atR_iff.1 ha
          rw [List.drop_eq_getElem_cons hk] at h
          rcases List.mem_cons.1 h with rfl | h
          · exact absurd he hn
          · exact h
        · exact h
theorem mem_poutR {xs : List GRow} {id : Int} {x : GRow} (hs : sortR xs) : x ∈ poutR xs id ↔ x ∈ xs ∧ ¬ x.Id = id := by
  have h1 := @take_lt xs id hs
  have h2 := @drop_gt xs id hs
  have hx : xs = xs.take (posR xs id) ++ xs.drop (posR xs id) := (List.take_append_drop ..).symm
  rw [dropR_eq, List.mem_append]
  constructor
  · rintro (h | h)
    · exact ⟨List.mem_of_mem_take h, by have := h1 x h; omega⟩
    · exact ⟨List.mem_of_mem_drop h, by have := h2 x h; omega⟩
  · rintro ⟨h, hn⟩
    rw [hx] at h
    rcases List.mem_append.1 h with h | h
    · exact .inl h
    · right
      split
      · rename_i ha
        obtain ⟨hk, he⟩ := atR_iff.1 ha
        rw [List.drop_eq_getElem_cons hk] at h
        rcases List.mem_cons.1 h with rfl | h
        · exact absurd he hn
        · exact h
      · exact h
/-- The last change of a row, -1 without one. -/
def lastF (l : List GChange) (t id : Int) : Nat → Int
  | 0 => -1
  | k + 1 => match l[k]? with
    | none => lastF l t id k
    | some c => if c.Table = t ∧ c.Row.Id = id then (k : Int) else lastF l t id k
theorem lastF_succ {l : List GChange} {t id : Int} {k : Nat} (h : k < l.length) : lastF l t id (k + 1) = if l[k].Table = t ∧ l[k].Row.Id = id then (k : Int) else lastF l t id k := by
  rw [lastF, List.getElem?_eq_getElem h]
theorem lastF_b {l : List GChange} {t id : Int} : ∀ k, -1 ≤ lastF l t id k ∧ lastF l t id k < k ∧ lastF l t id k < l.length
  | 0 => by rw [lastF]; omega
  | k + 1 => by
    have := @lastF_b l t id k
    rw [lastF]
    split
    · omega
    · rename_i h
      obtain ⟨hk, _⟩ := List.getElem?_eq_some_iff.1 h
      split <;> omega
def lastC (l : List GChange) (t id : Int) (k : Nat) : GChange := l.getD (lastF l t id k).toNat .zero
/-- What stands of a row. -/
theorem foldF_last {l : List GChange} {t : Int} : ∀ k, k ≤ l.length → ∀ r, r ∈ foldF l t k ↔ (0 ≤ lastF l t r.Id k ∧ (lastC l t r.Id k).Row = r ∧ (lastC l t r.Id k).Gone = false)
  | 0, _, r => by rw [foldF, lastF]; simp
  | k + 1, hk, r => by
    have hk' : k < l.length := by omega
    have ih := foldF_last (l := l) (t := t) k (by omega) r
    obtain ⟨hs, _⟩ := @foldF_ok l t k
    have hat : l.getD ((k : Int)).toNat .zero = l[k] := by simp [List.getD_eq_getElem?_getD, hk']
    rw [foldF_succ hk']
    unfold lastC at *
    rw [lastF_succ hk']
    by_cases h1 : l[k].Table = t
    · cases hg : l[k].Gone with
      | true =>
        rw [ch_2 h1 hg, mem_poutR hs]
        by_cases h2 : l[k].Row.Id = r.Id
        · rw [if_pos ⟨h1, h2⟩, hat, hg]
          constructor
          · rintro ⟨_, h⟩; exact absurd h2.symm h
          · rintro ⟨_, _, h⟩; cases h
        · rw [if_neg (fun h => h2 h.2), ih]
          constructor
          · rintro ⟨h, _⟩; exact h
          · intro h; exact ⟨h, fun e => h2 e.symm⟩
      | false =>
        rw [ch_3 h1 hg, mem_pinR hs]
        by_cases h2 : l[k].Row.Id = r.Id
        · rw [if_pos ⟨h1, h2⟩, hat, hg]
          constructor
          · rintro (h | ⟨_, h⟩)
            · exact ⟨by omega, h.symm, rfl⟩
            · exact absurd h2.symm h
          · rintro ⟨_, h, _⟩; exact .inl h.symm
        · rw [if_neg (fun h => h2 h.2), ih]
          constructor
          · rintro (h | ⟨h, _⟩)
            · subst h; exact absurd rfl h2
            · exact h
          · intro h; exact .inr ⟨h, fun e => h2 e.symm⟩
    · rw [ch_1 h1, if_neg (fun h => h1 h.1)]; exact ih
theorem lastF_id {l : List GChange} {t id : Int} : ∀ k, 0 ≤ lastF l t id k → (lastC l t id k).Row.Id = id
  | 0, h => by rw [lastF] at h; omega
  | k + 1, h => by
    have ih := @lastF_id l t id k
    unfold lastC at *
    rw [lastF] at h ⊢
    split at h
    · exact ih h
    · rename_i c hc
      obtain ⟨hk, rfl⟩ := List.getElem?_eq_some_iff.1 hc
      split
      · rename_i h2
        have : l.getD ((k : Int)).toNat .zero = l[k] := by simp [List.getD_eq_getElem?_getD, hk]
        rw [this]; exact h2.2
      · rename_i h2; rw [if_neg h2] at h; exact ih h
/-- Whether a row is among the first ones. -/
def foundF (xs : List GRow) (id : Int) (k : Nat) : Bool := (xs.take k).any (fun r => decide (r.Id = id))
theorem foundF_succ {xs : List GRow} {id : Int} {k : Nat} (h : k < xs.length) : foundF xs id (k + 1) = (foundF xs id k || decide (xs[k].Id = id)) := by
  unfold foundF; rw [take_succ h, List.any_append]; simp
theorem found_last {l : List GChange} {t id : Int} : foundF (foldF l t l.length) id (foldF l t l.length).length = (decide (0 ≤ lastF l t id l.length) && !(lastC l t id l.length).Gone) := by
  rw [Bool.eq_iff_iff]
  unfold foundF
  rw [List.take_length, List.any_eq_true]
  simp only [decide_eq_true_eq, Bool.and_eq_true, Bool.not_eq_true']
  constructor
  · rintro ⟨r, hr, rfl⟩
    obtain ⟨h1, h2, h3⟩ := (foldF_last l.length (Nat.le_refl _) r).1 hr
    exact ⟨h1, h3⟩
  · rintro ⟨h1, h2⟩
    have hid := lastF_id (l := l) (t := t) (id := id) l.length h1
    refine ⟨(lastC l t id l.length).Row, ?_, hid⟩
    rw [foldF_last l.length (Nat.le_refl _), hid]
    exact ⟨h1, rfl, h2⟩
theorem row_last {l : List GChange} {t : Int} {j : Nat} (h : j < (foldF l t l.length).length) : 0 ≤ lastF l t (foldF l t l.length)[j].Id l.length ∧ (lastC l t (foldF l t l.length)[j].Id l.length).Row = (foldF l t l.length)[j] := by
  obtain ⟨h1, h2, _⟩ := (foldF_last (l := l) (t := t) l.length (Nat.le_refl _) _).1 (List.getElem_mem h)
  exact ⟨h1, h2⟩
theorem chD {l : List GChange} {k : Nat} (h : k < l.length) : (l.map GChange.row)[k]? = some (GChange.row (l.getD k .zero)) := by
  rw [mapAt h]; simp [List.getD_eq_getElem?_getD, h]
theorem chD' {l : List GChange} {k : Nat} (h : k < l.length) : l.getD k .zero = l[k] := by simp [List.getD_eq_getElem?_getD, h]
theorem badC_no {c : GChange} (h1 : 0 ≤ c.Session ∧ c.Session ≤ 2) (h2 : 1 ≤ c.Table ∧ c.Table ≤ 3) (h3 : rowOK c.Row = true) : badC c = false := by
  unfold badC; rw [inR_iff.2 h1, inR_iff.2 h2, h3]; rfl
theorem chs_of {l : List GChange} (hl : l.length ≤ 7) (hb : ∀ c ∈ l, badC c = false) : chsOK l = true ∧ l.length ≤ 1048576 ∧ ∀ x ∈ l, x.Row.N.T.length ≤ 1048576 ∧ x.Row.Name.T.length ≤ 1048576 := by
  refine ⟨?_, by omega, fun x hx => ?_⟩
  · unfold chsOK
    rw [decide_eq_true (by omega)]
    cases h : l.any badC with
    | false => rfl
    | true =>
      obtain ⟨c, hc, hh⟩ := List.any_eq_true.1 h
      rw [hb c hc] at hh; cases hh
  · have h := hb x hx
    unfold badC at h
    have : rowOK x.Row = true := by
      cases hr : rowOK x.Row with
      | true => rfl
      | false => rw [hr] at h; simp at h
    have := RR.of this
    exact ⟨this.n.l, this.m.l⟩
end Go.AM

/- Plain laws: disks, what a crash keeps. -/
namespace Go.AM
def badAt (n : Nat) (p : GPending) : Bool := !inR p.At 0 ((n : Int) - 1) || decide (160 < (p.Data.length : Int))
def long160 (s : Str) : Bool := decide (160 < (s.length : Int))
def long64 (s : Str) : Bool := decide (65536 < (s.length : Int))
def badHead (d : GDisk) : Bool := ((!inR (d.Sectors.length : Int) 1 100 || decide (500 < (d.Cache.length : Int))) || decide (500 < (d.Keep.length : Int))) || (!d.Armed && decide (0 < (d.Keep.length : Int)))
def diskOK (d : GDisk) : Bool := !badHead d && (!d.Sectors.any long160 && !d.Cache.any (badAt d.Sectors.length))
theorem diskOK_head {d : GDisk} (h : diskOK d = true) : d.Sectors.length ≤ 100 ∧ d.Cache.length ≤ 500 ∧ d.Keep.length ≤ 500 := by
  unfold diskOK badHead inR at h
  simp only [Bool.and_eq_true, Bool.not_eq_true', Bool.or_eq_false_iff, decide_eq_false_iff_not, Bool.not_eq_false', decide_eq_true_eq] at h
  omega
theorem diskOK_at {d : GDisk} (h : diskOK d = true) : ∀ p ∈ d.Cache, 0 ≤ p.At ∧ p.At.toNat < d.Sectors.length := fun p hp => by
  unfold diskOK at h
  simp only [Bool.and_eq_true, Bool.not_eq_true'] at h
  have h1 : badAt d.Sectors.length p = false := by
    cases hh : badAt d.Sectors.length p with
    | false => rfl
    | true => exact absurd (List.any_eq_true.2 ⟨p, hp, hh⟩) (by rw [h.2.2]; simp)
  unfold badAt inR at h1
  simp only [Bool.or_eq_false_iff, Bool.not_eq_false', Bool.and_eq_true, decide_eq_true_eq] at h1
  omega
theorem getD_atI {l : List Int} {i : Nat} (h : i < l.length) : l.getD i 0 = l[i] := by simp [List.getD, h]
def putP (S : List Str) (p : GPending) : List Str := S.set p.At.toNat p.Data
def keepAt (keep : List Int) (k : Nat) : Bool := decide ((k : Int) < (keep.length : Int)) && !decide (keep.getD k 0 = 0)
def keptTo (S : List Str) (ps : List GPending) (keep : List Int) : Nat → List Str
  | 0 => S
  | k + 1 => match ps[k]? with
    | none => keptTo S ps keep k
    | some p => bif keepAt keep k then putP (keptTo S ps keep k) p else keptTo S ps keep k
theorem keptTo_len {S : List Str} {ps : List GPending} {keep : List Int} : ∀ {k : Nat}, (keptTo S ps keep k).length = S.length
  | 0 => rfl
  | k + 1 => by
    rw [keptTo]
    split
    · exact keptTo_len
    · cases keepAt keep k
      · exact keptTo_len
      · show (putP _ _).length = _
        unfold putP; rw [List.length_set]; exact keptTo_len
theorem keptTo_t {S : List Str} {ps : List GPending} {keep : List Int} {k : Nat} (hk : k < ps.length) (h : keepAt keep k = true) : keptTo S ps keep (k + 1) = (keptTo S ps keep k).set ps[k].At.toNat ps[k].Data := by
  rw [keptTo, List.getElem?_eq_getElem hk]; simp only [h, cond_true]; rfl
theorem keptTo_f {S : List Str} {ps : List GPending} {keep : List Int} {k : Nat} (hk : k < ps.length) (h : keepAt keep k = false) : keptTo S ps keep (k + 1) = keptTo S ps keep k := by
  rw [keptTo, List.getElem?_eq_getElem hk]; simp only [h, cond_false]
def syncTo (S : List Str) (ps : List GPending) (k : Nat) : List Str := (ps.take k).foldl putP S
theorem syncTo_len {S : List Str} {ps : List GPending} {k : Nat} : (syncTo S ps k).length = S.length := by
  unfold syncTo
  generalize ps.take k = l
  induction l generalizing S with
  | nil => rfl
  | cons p l ih => rw [List.foldl_cons, ih]; unfold putP; rw [List.length_set]
theorem syncTo_succ {S : List Str} {ps : List GPending} {k : Nat} (hk : k < ps.length) : syncTo S ps (k + 1) = (syncTo S ps k).set ps[k].At.toNat ps[k].Data := by
  unfold syncTo; rw [take_succ hk, List.foldl_append]; rfl
def crashD (d : GDisk) (keep : List Int) : GDisk := ⟨keptTo d.Sectors d.Cache keep d.Cache.length, [], false, []⟩
def syncD (d : GDisk) : GDisk × Bool := if d.Armed = true then (crashD d d.Keep, false) else (⟨syncTo d.Sectors d.Cache d.Cache.length, [], d.Armed, d.Keep⟩, true)
theorem syncD_1 {d : GDisk} (h : d.Armed = true) : syncD d = (crashD d d.Keep, false) := by unfold syncD; rw [if_pos h]
theorem syncD_2 {d : GDisk} (h : d.Armed = false) : syncD d = (⟨syncTo d.Sectors d.Cache d.Cache.length, [], d.Armed, d.Keep⟩, true) := by unfold syncD; rw [if_neg (by rw [h]; simp)]
def armF (d : GDisk) (keep : List Int) : GDisk × Int := if 4096 < (keep.length : Int) then (.zero, 2) else if diskOK d = false then (.zero, 1) else if 500 < (keep.length : Int) then (.zero, 6) else (⟨d.Sectors, d.Cache, true, keep⟩, 0)
theorem armF_1 {d : GDisk} {keep : List Int} (h : 4096 < (keep.length : Int)) : armF d keep = (.zero, 2) := by unfold armF; rw [if_pos h]
theorem armF_2 {d : GDisk} {keep : List Int} (h : ¬ 4096 < (keep.length : Int)) (h1 : diskOK d = false) : armF d keep = (.zero, 1) := by unfold armF; rw [if_neg h, if_pos h1]
theorem armF_3 {d : GDisk} {keep : List Int} (h : ¬ 4096 < (keep.length : Int)) (h1 : diskOK d = true) (h2 : 500 < (keep.length : Int)) : armF d keep = (.zero, 6) := by unfold armF; rw [if_neg h, if_neg (by rw [h1]; simp), if_pos h2]
theorem armF_4 {d : GDisk} {keep : List Int} (h : ¬ 4096 < (keep.length : Int)) (h1 : diskOK d = true) (h2 : ¬ 500 < (keep.length : Int)) : armF d keep = (⟨d.Sectors, d.Cache, true, keep⟩, 0) := by unfold armF; rw [if_neg h, if_neg (by rw [h1]; simp), if_neg h2]
def crashF (d : GDisk) (keep : List Int) : GDisk × Int := if 4096 < (keep.length : Int) then (.zero, 2) else if diskOK d = false then (.zero, 1) else (crashD d keep, 0)
theorem crashF_1 {d : GDisk} {keep : List Int} (h : 4096 < (keep.length : Int)) : crashF d keep = (.zero, 2) := by unfold crashF; rw [if_pos h]
theorem crashF_2 {d : GDisk} {keep : List Int} (h : ¬ 4096 < (keep.length : Int)) (h1 : diskOK d = false) : crashF d keep = (.zero, 1) := by unfold crashF; rw [if_neg h, if_pos h1]
theorem crashF_3 {d : GDisk} {keep : List Int} (h : ¬ 4096 < (keep.length : Int)) (h1 : diskOK d = true) : crashF d keep = (crashD d keep, 0) := by unfold crashF; rw [if_neg h, if_neg (by rw [h1]; simp)]
def syncF (d : GDisk) : GDisk × Bool × Int := if diskOK d = false then (.zero, false, 1) else ((syncD d).1, (syncD d).2, 0)
theorem syncF_1 {d : GDisk} (h1 : diskOK d = false) : syncF d = (.zero, false, 1) := by unfold syncF; rw [if_pos h1]
theorem syncF_2 {d : GDisk} (h1 : diskOK d = true) : syncF d = ((syncD d).1, (syncD d).2, 0) := by unfold syncF; rw [if_neg (by rw [h1]; simp)]
def wrD (d : GDisk) (a : Int) (x : Str) : GDisk := ⟨d.Sectors, d.Cache ++ [⟨a, x⟩], d.Armed, d.Keep⟩
def badW (d : GDisk) (a : Int) (x : Str) : Bool := !inR a 0 ((d.Sectors.length : Int) - 1) || decide (160 < (x.length : Int))
def writeF (d : GDisk) (a : Int) (x : Str) : GDisk × Int := if 65536 < (x.length : Int) then (.zero, 2) else if diskOK d = false then (.zero, 1) else if badW d a x = true then (.zero, 4) else if (d.Cache.length : Int) = 500 then (d, 7) else (wrD d a x, 0)
section
variable {d : GDisk} {a : Int} {x : Str}
theorem writeF_1 (h : 65536 < (x.length : Int)) : writeF d a x = (.zero, 2) := by unfold writeF; rw [if_pos h]
theorem writeF_2 (h : ¬ 65536 < (x.length : Int)) (h1 : diskOK d = false) : writeF d a x = (.zero, 1) := by unfold writeF; rw [if_neg h, if_pos h1]
theorem writeF_3 (h : ¬ 65536 < (x.length : Int)) (h1 : diskOK d = true) (h2 : badW d a x = true) : writeF d a x = (.zero, 4) := by unfold writeF; rw [if_neg h, if_neg (by rw [h1]; simp), if_pos h2]
theorem writeF_4 (h : ¬ 65536 < (x.length : Int)) (h1 : diskOK d = true) (h2 : badW d a x = false) (h3 : (d.Cache.length : Int) = 500) : writeF d a x = (d, 7) := by unfold writeF; rw [if_neg h, if_neg (by rw [h1]; simp), if_neg (by rw [h2]; simp), if_pos h3]
theorem writeF_5 (h : ¬ 65536 < (x.length : Int)) (h1 : diskOK d = true) (h2 : badW d a x = false) (h3 : ¬ (d.Cache.length : Int) = 500) : writeF d a x = (wrD d a x, 0) := by unfold writeF; rw [if_neg h, if_neg (by rw [h1]; simp), if_neg (by rw [h2]; simp), if_neg h3]
end
theorem armF_len {d : GDisk} {keep : List Int} : (armF d keep).1.Sectors.length ≤ d.Sectors.length ∧ (armF d keep).1.Cache.length ≤ d.Cache.length ∧ (armF d keep).1.Keep.length ≤ keep.length := by
  unfold armF; split
  · simp [GDisk.zero]
  · split
    · simp [GDisk.zero]
    · split
      · simp [GDisk.zero]
      · simp
theorem crashD_len {d : GDisk} {keep : List Int} : (crashD d keep).Sectors.length = d.Sectors.length := keptTo_len
theorem crashF_len {d : GDisk} {keep : List Int} : (crashF d keep).1.Sectors.length ≤ d.Sectors.length ∧ (crashF d keep).1.Cache.length = 0 ∧ (crashF d keep).1.Keep.length = 0 := by
  unfold crashF; split
  · simp [GDisk.zero]
  · split
    · simp [GDisk.zero]
    · exact ⟨by show (crashD d keep).Sectors.length ≤ _; rw [crashD_len]; exact Nat.le_refl _, rfl, rfl⟩
theorem syncF_len {d : GDisk} : (syncF d).1.Sectors.length ≤ d.Sectors.length ∧ (syncF d).1.Cache.length = 0 ∧ (syncF d).1.Keep.length ≤ d.Keep.length := by
  unfold syncF; split
  · simp [GDisk.zero]
  · show (syncD d).1.Sectors.length ≤ _ ∧ (syncD d).1.Cache.length = 0 ∧ (syncD d).1.Keep.length ≤ _
    unfold syncD; split
    · exact ⟨by show (crashD d _).Sectors.length ≤ _; rw [crashD_len]; exact Nat.le_refl _, rfl, Nat.zero_le _⟩
    · exact ⟨by show (syncTo _ _ _).length ≤ _; rw [syncTo_len]; exact Nat.le_refl _, rfl, Nat.le_refl _⟩
theorem writeF_len {d : GDisk} {a : Int} {x : Str} : (writeF d a x).1.Sectors.length ≤ d.Sectors.length ∧ (writeF d a x).1.Cache.length ≤ d.Cache.length + 1 ∧ (writeF d a x).1.Keep.length ≤ d.Keep.length := by
  unfold writeF; split
  · simp [GDisk.zero]
  · split
    · simp [GDisk.zero]
    · split
      · simp [GDisk.zero]
      · split
        · simp
        · simp [wrD]
abbrev GDisk.pO (e e0 e1 e2 : Nat) (x : GDisk) : List (Nat × OB) := (e, .box [.osl e0 1 0 x.Sectors.length, .osl e1 2 0 x.Cache.length, .d (.bool x.Armed), .osl e2 1 0 x.Keep.length]) :: x.hO e0 e1 e2
end Go.AM

/- Plain laws: disks that are right, what is read of them, drawn ones. -/
namespace Go.AM
structure DOK (d : GDisk) : Prop where
  s0 : 1 ≤ d.Sectors.length
  s1 : d.Sectors.length ≤ 100
  c1 : d.Cache.length ≤ 500
  k1 : d.Keep.length ≤ 500
  ka : d.Armed = false → d.Keep = []
  st : ∀ t ∈ d.Sectors, t.length ≤ 160
  ct : ∀ p ∈ d.Cache, 0 ≤ p.At ∧ p.At < (d.Sectors.length : Int) ∧ p.Data.length ≤ 160
theorem DOK.ok {d : GDisk} (h : DOK d) : diskOK d = true := by
  have h0 := h.s0; have h1 := h.s1; have h2 := h.c1; have h3 := h.k1
  unfold diskOK
  have e1 : badHead d = false := by
    unfold badHead inR
    cases ha : d.Armed with
    | false => rw [h.ka ha]; simp; omega
    | true => simp; omega
  have e2 : d.Sectors.any long160 = false := by
    rw [List.any_eq_false]; intro t ht; have := h.st t ht; unfold long160; simp; omega
  have e3 : d.Cache.any (badAt d.Sectors.length) = false := by
    rw [List.any_eq_false]; intro p hp; have := h.ct p hp; unfold badAt inR; simp; omega
  rw [e1, e2, e3]; rfl
theorem newD_ok {n : Nat} (h : 1 ≤ n ∧ n ≤ 100) : DOK ⟨List.replicate n [], [], false, []⟩ :=
  ⟨by simp; omega, by simp; omega, Nat.zero_le _, Nat.zero_le _, fun _ => rfl, fun t ht => by rw [(List.mem_replicate.1 ht).2]; exact Nat.zero_le _, fun p hp => by cases hp⟩
theorem armD_ok {d : GDisk} {keep : List Int} (h : DOK d) (hk : keep.length ≤ 500) : DOK ⟨d.Sectors, d.Cache, true, keep⟩ :=
  ⟨h.s0, h.s1, h.c1, hk, fun h => (by cases h), h.st, h.ct⟩
theorem wrD_ok {d : GDisk} {a : Int} {x : Str} (h : DOK d) (ha : 0 ≤ a ∧ a < (d.Sectors.length : Int)) (hx : x.length ≤ 160) (hc : d.Cache.length < 500) : DOK (wrD d a x) :=
  ⟨h.s0, h.s1, by show (d.Cache ++ _).length ≤ _; simp; omega, h.k1, h.ka, h.st, fun p hp => by
    rcases List.mem_append.1 hp with q | q
    · exact h.ct p q
    · rw [List.mem_singleton] at q; subst q; exact ⟨ha.1, ha.2, hx⟩⟩
theorem putP_st {S : List Str} {p : GPending} (hs : ∀ t ∈ S, t.length ≤ 160) (hp : p.Data.length ≤ 160) : ∀ t ∈ putP S p, t.length ≤ 160 := fun t ht => by
  unfold putP at ht
  rcases List.mem_or_eq_of_mem_set ht with q | q
  · exact hs t q
  · rw [q]; exact hp
theorem keptTo_st {S : List Str} {C : List GPending} {keep : List Int} (hs : ∀ t ∈ S, t.length ≤ 160) (hc : ∀ p ∈ C, p.Data.length ≤ 160) : ∀ k, ∀ t ∈ keptTo S C keep k, t.length ≤ 160
  | 0 => hs
  | k + 1 => by
    rw [keptTo]
    split
    · exact keptTo_st hs hc k
    · rename_i p hp
      cases keepAt keep k with
      | false => exact keptTo_st hs hc k
      | true => exact putP_st (keptTo_st hs hc k) (hc p (List.mem_of_getElem? hp))
theorem syncTo_st {S : List Str} {C : List GPending} (hs : ∀ t ∈ S, t.length ≤ 160) (hc : ∀ p ∈ C, p.Data.length ≤ 160) (k : Nat) : ∀ t ∈ syncTo S C k, t.length ≤ 160 := by
  unfold syncTo
  have hc2 : ∀ p ∈ C.take k, p.Data.length ≤ 160 := fun p hp => hc p (List.mem_of_mem_take hp)
  generalize C.take k = l at hc2
  induction l generalizing S with
  | nil => exact hs
  | cons p l ih => rw [List.foldl_cons]; exact ih (putP_st hs (hc2 p (List.mem_cons_self ..))) (fun q hq => hc2 q (List.mem_cons_of_mem _ hq))
theorem crashD_ok {d : GDisk} {keep : List Int} (h : DOK d) : DOK (crashD d keep) :=
  ⟨by rw [crashD_len]; exact h.s0, by rw [crashD_len]; exact h.s1, Nat.zero_le _, Nat.zero_le _, fun _ => rfl, keptTo_st h.st (fun p hp => (h.ct p hp).2.2) _, fun p hp => by cases hp⟩
theorem syncD_ok {d : GDisk} (h : DOK d) : DOK (syncD d).1 := by
  unfold syncD; split
  · exact crashD_ok h
  · exact ⟨by show 1 ≤ (syncTo _ _ _).length; rw [syncTo_len]; exact h.s0, by show (syncTo _ _ _).length ≤ _; rw [syncTo_len]; exact h.s1, Nat.zero_le _, h.k1, h.ka, syncTo_st h.st (fun p hp => (h.ct p hp).2.2) _, fun p hp => by cases hp⟩
/-- A drawn disk, of at most 'm' writes. -/
structure DD (d : GDisk) (m : Nat) : Prop where
  ok : DOK d
  s9 : d.Sectors.length ≤ 9
  cm : d.Cache.length ≤ m
  km : d.Keep.length ≤ 11
theorem DD.w0 {d : GDisk} {m : Nat} (h : DD d m) : d.Sectors.length ≤ 1048576 := by have := h.s9; omega
theorem DD.w1 {d : GDisk} {m : Nat} (h : DD d m) (hm : m ≤ 100) : d.Cache.length ≤ 1048576 := by have := h.cm; omega
theorem DD.w2 {d : GDisk} {m : Nat} (h : DD d m) : d.Keep.length ≤ 1048576 := by have := h.km; omega
theorem DD.mono {d : GDisk} {m n : Nat} (h : DD d m) (hm : m ≤ n) : DD d n := ⟨h.ok, h.s9, Nat.le_trans h.cm hm, h.km⟩
theorem newD_dd {n : Nat} (h : 1 ≤ n ∧ n ≤ 9) : DD ⟨List.replicate n [], [], false, []⟩ 0 := ⟨newD_ok (by omega), by simp; omega, Nat.le_refl _, Nat.zero_le _⟩
theorem syncD_len {d : GDisk} : (syncD d).1.Sectors.length = d.Sectors.length ∧ (syncD d).1.Cache.length = 0 ∧ (syncD d).1.Keep.length ≤ d.Keep.length := by
  unfold syncD; split
  · exact ⟨crashD_len, rfl, Nat.zero_le _⟩
  · exact ⟨syncTo_len, rfl, Nat.le_refl _⟩
theorem syncD_dd {d : GDisk} {m : Nat} (h : DD d m) : DD (syncD d).1 m := by
  obtain ⟨h1, h2, h3⟩ := @syncD_len d
  exact ⟨syncD_ok h.ok, by rw [h1]; exact h.s9, by omega, by have := h.km; omega⟩
theorem armD_dd {d : GDisk} {m : Nat} {keep : List Int} (h : DD d m) (hk : keep.length ≤ 11) : DD ⟨d.Sectors, d.Cache, true, keep⟩ m := ⟨armD_ok h.ok (by omega), h.s9, h.cm, hk⟩
theorem wrD_dd {d : GDisk} {m : Nat} {a : Int} {x : Str} (h : DD d m) (ha : 0 ≤ a ∧ a < (d.Sectors.length : Int)) (hx : x.length ≤ 160) (hm : m < 100) : DD (wrD d a x) (m + 1) :=
  ⟨wrD_ok h.ok ha hx (by have := h.cm; omega), h.s9, by show (d.Cache ++ _).length ≤ _; have := h.cm; simp; omega, h.km⟩
theorem armF_ok {d : GDisk} {keep : List Int} (h : DOK d) (hk : keep.length ≤ 500) : armF d keep = (⟨d.Sectors, d.Cache, true, keep⟩, 0) := armF_4 (by omega) h.ok (by omega)
theorem crashF_ok {d : GDisk} {keep : List Int} (h : DOK d) (hk : keep.length ≤ 500) : crashF d keep = (crashD d keep, 0) := crashF_3 (by omega) h.ok
theorem syncF_ok {d : GDisk} (h : DOK d) : syncF d = ((syncD d).1, (syncD d).2, 0) := syncF_2 h.ok
def newF (n : Int) : List Str × Int := if inR n 1 100 = false then ([], 4) else (List.replicate n.toNat [], 0)
/-- What a sector tells: what was written last. -/
def lastW (C : List GPending) (i : Int) (t : Str) : Str := C.foldl (fun t p => if p.At = i then p.Data else t) t
theorem lastW_app {C : List GPending} {p : GPending} {i : Int} {t : Str} : lastW (C ++ [p]) i t = if p.At = i then p.Data else lastW C i t := by
  unfold lastW; rw [List.foldl_append]; rfl
theorem lastW_no {C : List GPending} {i : Int} {t : Str} {k : Nat} (hk : k < C.length) (h : C[k].At ≠ i) : lastW (C.take (k + 1)) i t = lastW (C.take k) i t := by
  rw [take_succ hk, lastW_app, if_neg h]
theorem lastW_yes {C : List GPending} {i : Int} {t : Str} {k : Nat} (hk : k < C.length) (h : C[k].At = i) : lastW (C.take (k + 1)) i t = C[k].Data := by
  rw [take_succ hk, lastW_app, if_pos h]
theorem putP_get {S : List Str} {p : GPending} {i : Nat} (hi : i < S.length) (hp : 0 ≤ p.At) : (putP S p).getD i [] = if p.At = (i : Int) then p.Data else S.getD i [] := by
  unfold putP
  split
  · rename_i h
    rw [show p.At.toNat = i from by omega]
    simp [List.getD, hi]
  · rename_i h
    rw [List.getD_eq_getElem?_getD, List.getElem?_set_ne (by omega), List.getD_eq_getElem?_getD]
theorem syncTo_get {S : List Str} {C : List GPending} {i : Nat} (hi : i < S.length) (hC : ∀ p ∈ C, 0 ≤ p.At) : ∀ k, k ≤ C.length → (syncTo S C k).getD i [] = lastW (C.take k) i (S.getD i [])
  | 0, _ => rfl
  | k + 1, hk => by
    have e : syncTo S C (k + 1) = putP (syncTo S C k) C[k] := syncTo_succ (by omega)
    rw [e, putP_get (by rw [syncTo_len]; exact hi) (hC _ (List.getElem_mem (by omega))), syncTo_get hi hC k (by omega), take_succ (by omega), lastW_app]
theorem keptTo_get {S : List Str} {C : List GPending} {keep : List Int} {i : Nat} (hi : i < S.length) (hC : ∀ p ∈ C, 0 ≤ p.At) : ∀ k, k ≤ C.length → (keptTo S C keep k).getD i [] = S.getD i [] ∨ ∃ p ∈ C, p.At = (i : Int) ∧ (keptTo S C keep k).getD i [] = p.Data
  | 0, _ => .inl rfl
  | k + 1, hk => by
    cases hh : keepAt keep k with
    | false => rw [keptTo_f (by omega) hh]; exact keptTo_get hi hC k (by omega)
    | true =>
      have e : keptTo S C keep (k + 1) = putP (keptTo S C keep k) C[k] := keptTo_t (by omega) hh
      rw [e, putP_get (by rw [keptTo_len]; exact hi) (hC _ (List.getElem_mem (by omega)))]
      split
      · rename_i h
        exact .inr ⟨_, List.getElem_mem (by omega), h, rfl⟩
      · exact keptTo_get hi hC k (by omega)
/-- What is kept, drawn. -/
def keepsL : Nat → Src → List Int → List Int × Src
  | 0, s, l => (l, s)
  | n + 1, s, l => keepsL n (nextF s 2).2 (l ++ [(nextF s 2).1])
def keepsF (s : Src) : List Int × Src := keepsL (nextF s 12).1.toNat (nextF s 12).2 []
theorem keepsL_ok : ∀ {m : Nat} {s : Src} {l : List Int} {k : Nat}, s.ok (k + 3 * m) → (keepsL m s l).2.ok k ∧ (keepsL m s l).1.length = l.length + m
  | 0, _, _, _, h => ⟨h, rfl⟩
  | m + 1, s, l, k, h => by
    obtain ⟨h1, h2⟩ := keepsL_ok (m := m) (l := l ++ [(nextF s 2).1]) (k := k) (nextF_ok (s := s) (n := 2) (k := k + 3 * m) (h.mono (by omega))).1
    exact ⟨h1, by rw [keepsL, h2]; simp; omega⟩
theorem keepsF_ok {s : Src} {k : Nat} (h : s.ok (k + 36)) : (keepsF s).2.ok k ∧ (keepsF s).1.length ≤ 11 := by
  obtain ⟨h1, h2, h3⟩ := nextF_ok (s := s) (n := 12) (k := k + 33) h
  have h3 := h3 (by omega)
  obtain ⟨h4, h5⟩ := keepsL_ok (m := (nextF s 12).1.toNat) (l := []) (k := k) (h1.mono (by omega))
  exact ⟨h4, by unfold keepsF; rw [h5, List.length_nil]; omega⟩
def newDk (n : Int) : GDisk := ⟨List.replicate n.toNat [], [], false, []⟩
theorem newDk_len {n : Int} : (newDk n).Sectors.length = n.toNat := by simp [newDk]
theorem newDk_rows {n : Int} : (newDk n).Sectors.map strRow = List.replicate n.toNat [D.str []] := by simp [newDk]; exact .inr rfl
theorem newDk_dd {n : Int} (h : 1 ≤ n ∧ n ≤ 9) : DD (newDk n) 0 := newD_dd (by omega)
noncomputable def difD (x y : GDisk) : Bool := ((!eqb x.Sectors y.Sectors || !decide ((x.Cache.length : Int) = y.Cache.length)) || !(x.Armed == y.Armed)) || !eqb x.Keep y.Keep
theorem difD_no {x y : GDisk} (h : difD x y = false) : x.Sectors = y.Sectors ∧ x.Cache.length = y.Cache.length ∧ x.Armed = y.Armed ∧ x.Keep = y.Keep := by
  unfold difD at h
  simp only [Bool.or_eq_false_iff, Bool.not_eq_false', beq_iff_eq, decide_eq_true_eq] at h
  obtain ⟨⟨⟨h1, h2⟩, h3⟩, h4⟩ := h
  exact ⟨eqb_iff.1 h1, by omega, h3, eqb_iff.1 h4⟩
theorem difD_ne {x y : GDisk} (h : difD x y = true) : x ≠ y := fun e => by
  subst e; unfold difD at h; rw [eqb_rfl, eqb_rfl] at h; simp at h
theorem syncF_arm {d : GDisk} {keep : List Int} (h : DOK d) (hk : keep.length ≤ 500) : syncF ⟨d.Sectors, d.Cache, true, keep⟩ = (crashD d keep, false, 0) := by
  rw [syncF_ok (armD_ok h hk), syncD_1 rfl]; rfl
theorem dTexts_len : ∀ {t : Str}, t ∈ [[], [111, 110, 101], [116, 119, 111]] → t.length ≤ 160 := fun {t} h => by
  simp at h; rcases h with rfl | rfl | rfl <;> simp
def dTexts : List Str := [[], [111, 110, 101], [116, 119, 111]]
end Go.AM

/- Plain laws: the sum of bytes, numbers in bytes. -/
namespace Go.AM
theorem wr_u32 {n : Int} (h : 0 ≤ n) (h2 : n < 4294967296) : wr .u32 n = n := by
  unfold wr; simp [IntKind.wrap, IntKind.bits, IntKind.signed]; omega
theorem wr_u64 {n : Int} (h : 0 ≤ n) (h2 : n < 18446744073709551616) : wr .u64 n = n := by
  unfold wr; simp [IntKind.wrap, IntKind.bits, IntKind.signed]; omega
theorem bvI {w a : Nat} (h : a < 2 ^ w) : (BitVec.ofInt w (a : Int)).toNat = a := by
  rw [BitVec.toNat_ofInt]
  have : ((a : Int) % ((2 ^ w : Nat) : Int)) = a := Int.emod_eq_of_lt (by omega) (by omega)
  rw [this]; rfl
theorem x32 {a b : Nat} (ha : a < 4294967296) (hb : b < 4294967296) : wr .u32 ((BitVec.ofInt IntKind.u32.bits (a : Int) ^^^ BitVec.ofInt IntKind.u32.bits (b : Int)).toNat) = ((a ^^^ b : Nat) : Int) := by
  have h : a ^^^ b < 2 ^ 32 := Nat.xor_lt_two_pow ha hb
  rw [BitVec.toNat_xor, bvI (w := IntKind.u32.bits) (show a < 2 ^ 32 from ha), bvI (w := IntKind.u32.bits) (show b < 2 ^ 32 from hb)]
  exact wr_u32 (by omega) (by omega)
theorem x64 {a b : Nat} (ha : a < 4294967296) (hb : b < 4294967296) : wr .i64 ((BitVec.ofInt IntKind.i64.bits (a : Int) ^^^ BitVec.ofInt IntKind.i64.bits (b : Int)).toNat) = ((a ^^^ b : Nat) : Int) := by
  have h : a ^^^ b < 2 ^ 32 := Nat.xor_lt_two_pow ha hb
  rw [BitVec.toNat_xor, bvI (w := IntKind.i64.bits) (show a < 2 ^ 64 by omega), bvI (w := IntKind.i64.bits) (show b < 2 ^ 64 by omega)]
  exact wr_ok (by omega) (by omega)
theorem a32 {a : Nat} (ha : a < 4294967296) : wr .u32 ((BitVec.ofInt IntKind.u32.bits (a : Int) &&& BitVec.ofInt IntKind.u32.bits 1).toNat) = ((a % 2 : Nat) : Int) := by
  rw [BitVec.toNat_and, bvI (w := IntKind.u32.bits) (show a < 2 ^ 32 from ha), show (1 : Int) = ((1 : Nat) : Int) from rfl, bvI (show 1 < 2 ^ IntKind.u32.bits by decide), Nat.and_one_is_mod]
  exact wr_u32 (by omega) (by omega)
theorem a64 {a : Nat} (ha : a < 4294967296) : wr .i64 ((BitVec.ofInt IntKind.i64.bits (a : Int) &&& BitVec.ofInt IntKind.i64.bits 1).toNat) = ((a % 2 : Nat) : Int) := by
  rw [BitVec.toNat_and, bvI (w := IntKind.i64.bits) (show a < 2 ^ 64 by omega), show (1 : Int) = ((1 : Nat) : Int) from rfl, bvI (show 1 < 2 ^ IntKind.i64.bits by decide), Nat.and_one_is_mod]
  exact wr_ok (by omega) (by omega)
theorem sh1 {a : Nat} : (a : Int).fdiv 2 = ((a / 2 : Nat) : Int) := by
  rw [Int.fdiv_eq_ediv_of_nonneg _ (by omega)]; omega
/-- One bit, so many bits, bytes. -/
def bit1 (s : Nat) : Nat := if s % 2 = 1 then (s / 2) ^^^ 3988292384 else s / 2
def bitsN : Nat → Nat → Nat
  | 0, s => s
  | k + 1, s => bit1 (bitsN k s)
def crcS (l : Str) : Nat := l.foldl (fun s c => bitsN 8 (s ^^^ c.toNat)) 4294967295
def crcN (l : Str) : Nat := crcS l ^^^ 4294967295
theorem bit1_lt {s : Nat} (h : s < 4294967296) : bit1 s < 4294967296 := by
  unfold bit1; split
  · exact Nat.xor_lt_two_pow (n := 32) (by omega) (by omega)
  · omega
theorem bit1_t {s : Nat} (h : s % 2 = 1) : bit1 s = (s / 2) ^^^ 3988292384 := by unfold bit1; rw [if_pos h]
theorem bit1_f {s : Nat} (h : ¬ s % 2 = 1) : bit1 s = s / 2 := by unfold bit1; rw [if_neg h]
theorem slc_drop {l : Str} {n : Nat} : AV.d (.sl 1 (((l.map byteRow).drop (n : Int).toNat).take (((l.map byteRow).length : Int).toNat - (n : Int).toNat))) = .d (.sl 1 ((l.drop n).map byteRow)) := by
  rw [Int.toNat_natCast, Int.toNat_natCast, List.take_of_length_le (by simp), List.map_drop]
theorem slc_take {l : Str} {a : Int} {n : Nat} (h : a.toNat = n) : AV.d (.sl 1 (((l.map byteRow).drop (0 : Int).toNat).take (a.toNat - (0 : Int).toNat))) = .d (.sl 1 ((l.take n).map byteRow)) := by
  rw [h]; simp [List.map_take]
theorem slc_drop2 {l : Str} {a : Int} {n : Nat} (h : a.toNat = n) : AV.d (.sl 1 (((l.map byteRow).drop a.toNat).take (((l.map byteRow).length : Int).toNat - a.toNat))) = .d (.sl 1 ((l.drop n).map byteRow)) := by
  rw [h, Int.toNat_natCast, List.take_of_length_le (by simp), List.map_drop]
theorem app_rows {x y : Str} : (x.map byteRow).take x.length ++ (((y.map byteRow).drop 0).take y.length) = (x ++ y).map byteRow := by
  rw [List.take_of_length_le (by simp), List.drop_zero, List.take_of_length_le (by simp), List.map_append]
theorem app_str {x y : Str} : (x.map byteRow).take x.length ++ y.map byteRow = (x ++ y).map byteRow := by
  rw [List.take_of_length_le (by simp), List.map_append]
theorem len_rows {y : Str} : (((y.map byteRow).drop 0).take y.length).length = y.length := by simp
theorem bitsN_lt {s : Nat} (h : s < 4294967296) : ∀ k, bitsN k s < 4294967296
  | 0 => h
  | k + 1 => bit1_lt (bitsN_lt h k)
theorem bit1_mul {s : Nat} : (s / 2) ^^^ (s % 2 * 3988292384) = bit1 s := by
  unfold bit1
  rcases Nat.mod_two_eq_zero_or_one s with h | h
  · rw [h, if_neg (by omega)]; simp
  · rw [h, if_pos rfl]
theorem bit1_x64 {s : Nat} (h : s < 4294967296) : wr .i64 ((BitVec.ofInt IntKind.i64.bits ((s / 2 : Nat) : Int) ^^^ BitVec.ofInt IntKind.i64.bits ((s % 2 * 3988292384 : Nat) : Int)).toNat) = ((bit1 s : Nat) : Int) := by
  rw [x64 (by omega) (Nat.lt_of_le_of_lt (Nat.mul_le_mul_right 3988292384 (show s % 2 ≤ 1 by omega)) (by decide)), bit1_mul]
theorem xb_lt {s : Nat} {c : UInt8} (h : s < 4294967296) : s ^^^ c.toNat < 4294967296 := Nat.xor_lt_two_pow (n := 32) h (by have := c.toNat_lt; omega)
theorem crcS_lt {l : Str} : crcS l < 4294967296 := by
  unfold crcS
  suffices h : ∀ (l : Str) (s : Nat), s < 4294967296 → l.foldl (fun s c => bitsN 8 (s ^^^ c.toNat)) s < 4294967296 from h l _ (by omega)
  intro l
  induction l with
  | nil => exact fun s h => h
  | cons c l ih => exact fun s h => ih _ (bitsN_lt (xb_lt h) 8)
theorem crcN_lt {l : Str} : crcN l < 4294967296 := Nat.xor_lt_two_pow (n := 32) crcS_lt (by omega)
theorem crcS_succ {l : Str} {k : Nat} (hk : k < l.length) : crcS (l.take (k + 1)) = bitsN 8 (crcS (l.take k) ^^^ l[k].toNat) := by
  rw [take_succ hk]; unfold crcS; rw [List.foldl_append]; rfl
def shB (n : Int) (s : Int) : UInt8 := byteOf (n.fdiv (2 ^ (min s.toNat 64)))
theorem shB_0 {n : Int} : shB n 0 = byteOf n := by
  show byteOf (n.fdiv 1) = _
  rw [Int.fdiv_one]
theorem shB_8 {n : Int} : shB n 8 = byteOf (n / 256) := by
  show byteOf (n.fdiv 256) = _
  rw [Int.fdiv_eq_ediv_of_nonneg _ (by omega)]
theorem shB_16 {n : Int} : shB n 16 = byteOf (n / 65536) := by
  show byteOf (n.fdiv 65536) = _
  rw [Int.fdiv_eq_ediv_of_nonneg _ (by omega)]
theorem shB_24 {n : Int} : shB n 24 = byteOf (n / 16777216) := by
  show byteOf (n.fdiv 16777216) = _
  rw [Int.fdiv_eq_ediv_of_nonneg _ (by omega)]
def fourB (n : Int) : Str := [shB n 24, shB n 16, shB n 8, byteOf n]
def twoB (n : Int) : Str := [shB n 8, byteOf n]
def numT (n : Int) (size : Nat) (k : Nat) : Str := (List.range k).map (fun j => shB n (8 * (((size - 1 - j : Nat)) : Int)))
theorem numT_len {n : Int} {size k : Nat} : (numT n size k).length = k := by simp [numT]
theorem numT_succ {n : Int} {size k : Nat} : numT n size (k + 1) = numT n size k ++ [shB n (8 * (((size - 1 - k : Nat)) : Int))] := by
  unfold numT; rw [List.range_succ, List.map_append]; rfl
theorem numT_4 {n : Int} : numT n 4 4 = fourB n := by
  unfold fourB; rw [← shB_0]; rfl
theorem numT_2 {n : Int} : numT n 2 2 = twoB n := by
  unfold twoB; rw [← shB_0]; rfl
def bigN (l : Str) : Nat := l.foldl (fun n c => n * 256 + c.toNat) 0
theorem bigN_lt : ∀ {l : Str}, bigN l < 256 ^ l.length := by
  suffices h : ∀ (l : Str) (n : Nat), l.foldl (fun n c => n * 256 + c.toNat) n + 1 ≤ (n + 1) * 256 ^ l.length from fun {l} => by have := h l 0; unfold bigN; omega
  intro l
  induction l with
  | nil => intro n; simp
  | cons c l ih =>
    intro n
    have := ih (n * 256 + c.toNat)
    have hc := c.toNat_lt
    rw [List.foldl_cons, List.length_cons, Nat.pow_succ]
    refine Nat.le_trans this ?_
    rw [Nat.mul_comm (256 ^ l.length) 256, ← Nat.mul_assoc]
    exact Nat.mul_le_mul_right _ (by omega)
theorem bigN_four {n : Nat} (h : n < 4294967296) : bigN (fourB n) = n := by
  unfold bigN fourB; rw [shB_24, shB_16, shB_8]; simp only [List.foldl_cons, List.foldl_nil]
  have h1 := byteOf_nat ((n : Int) / 16777216); have h2 := byteOf_nat ((n : Int) / 65536); have h3 := byteOf_nat ((n : Int) / 256); have h4 := byteOf_nat n
  omega
theorem bigN_two {n : Nat} (h : n < 65536) : bigN (twoB n) = n := by
  unfold bigN twoB; rw [shB_8]; simp only [List.foldl_cons, List.foldl_nil]
  have h3 := byteOf_nat ((n : Int) / 256); have h4 := byteOf_nat n
  omega
theorem bigN_succ {l : Str} {k : Nat} (hk : k < l.length) : bigN (l.take (k + 1)) = bigN (l.take k) * 256 + l[k].toNat := by
  rw [take_succ hk]; unfold bigN; rw [List.foldl_append]; rfl
theorem bigN_lt3 {l : Str} (h : l.length ≤ 4) {k : Nat} (hk : k < l.length) : bigN (l.take k) < 16777216 := by
  have h1 := @bigN_lt (l.take k)
  have h2 : (l.take k).length ≤ 3 := by rw [List.length_take]; omega
  exact Nat.lt_of_lt_of_le h1 (Nat.pow_le_pow_right (n := 256) (by omega) h2)
theorem orW {a : Nat} {c : UInt8} (h : a < 16777216) : wr .i64 ((BitVec.ofInt IntKind.i64.bits ((a * 256 : Nat) : Int) ||| BitVec.ofInt IntKind.i64.bits (c.toNat : Int)).toNat) = ((a * 256 + c.toNat : Nat) : Int) := by
  have hc := c.toNat_lt
  rw [BitVec.toNat_or, bvI (w := IntKind.i64.bits) (show a * 256 < 2 ^ 64 by omega), bvI (w := IntKind.i64.bits) (show c.toNat < 2 ^ 64 by omega), Nat.mul_comm a 256, show (256 : Nat) = 2 ^ 8 from rfl, ← Nat.two_pow_add_eq_or_of_lt (show c.toNat < 2 ^ 8 by omega) a]
  exact wr_ok (by omega) (by omega)
theorem shlW {a : Nat} (h : a < 16777216) : wr .i64 ((a : Int) * 2 ^ (min (8 : Int).toNat IntKind.i64.bits)) = ((a * 256 : Nat) : Int) := by
  rw [wr_ok (by show _ ≤ (a : Int) * 256; omega) (by show (a : Int) * 256 ≤ _; omega)]
  show (a : Int) * 256 = _
  omega
def sealB (l : Str) : Str := l ++ fourB (crcN l)
/-- The bytes that are sealed, if they are. -/
def unsealF (l : Str) : Str × Bool := if (l.length : Int) - 4 < 0 ∨ ¬ (crcN (l.take (l.length - 4)) : Int) = bigN (l.drop (l.length - 4)) then ([], false) else (l.take (l.length - 4), true)
theorem unseal_1 {l : Str} (h : (l.length : Int) - 4 < 0 ∨ ¬ (crcN (l.take (l.length - 4)) : Int) = bigN (l.drop (l.length - 4))) : unsealF l = ([], false) := by unfold unsealF; rw [if_pos h]
theorem unseal_2 {l : Str} (h : ¬ ((l.length : Int) - 4 < 0 ∨ ¬ (crcN (l.take (l.length - 4)) : Int) = bigN (l.drop (l.length - 4)))) : unsealF l = (l.take (l.length - 4), true) := by unfold unsealF; rw [if_neg h]
theorem seal_len {l : Str} : (sealB l).length = l.length + 4 := by unfold sealB fourB; simp
theorem unseal_seal {l : Str} : unsealF (sealB l) = (l, true) := by
  have e : (sealB l).length - 4 = l.length := by rw [seal_len]; omega
  have e1 : (sealB l).take l.length = l := by unfold sealB; simp
  have e2 : (sealB l).drop l.length = fourB (crcN l) := by unfold sealB; simp
  have := @unseal_2 (sealB l) (by rw [e, e1, e2, bigN_four crcN_lt, seal_len]; omega)
  rw [this, e, e1]
theorem unseal_len {l : Str} : (unsealF l).1.length ≤ l.length := by
  unfold unsealF; split
  · exact Nat.zero_le _
  · simp
/-- Fields, put behind bytes. -/
def fieldB (t : Str) : Str := byteOf t.length :: t
def putK (b : Str) (ts : List Str) (k : Nat) : Str := (b ++ [byteOf ts.length]) ++ (ts.take k).flatMap fieldB
def putFs (b : Str) (ts : List Str) : Str := putK b ts ts.length
theorem putK_0 {b : Str} {ts : List Str} : putK b ts 0 = b ++ [byteOf ts.length] := by unfold putK; simp
theorem fm_succ {ts : List Str} {k : Nat} (hk : k < ts.length) : (ts.take (k + 1)).flatMap fieldB = (ts.take k).flatMap fieldB ++ (byteOf ts[k].length :: ts[k]) := by
  rw [take_succ hk, List.flatMap_append]; simp only [List.flatMap_cons, List.flatMap_nil, List.append_nil]; rfl
theorem putK_succ {b : Str} {ts : List Str} {k : Nat} (hk : k < ts.length) : putK b ts (k + 1) = (putK b ts k ++ [byteOf ts[k].length]) ++ ts[k] := by
  unfold putK; rw [fm_succ hk]; simp only [List.append_assoc, List.cons_append, List.nil_append]
def lenK (ts : List Str) (k : Nat) : Nat := ((ts.take k).flatMap fieldB).length
theorem putK_len {b : Str} {ts : List Str} {k : Nat} : (putK b ts k).length = b.length + 1 + lenK ts k := by unfold putK lenK; simp only [List.length_append, List.length_cons, List.length_nil]
theorem lenK_le {ts : List Str} {m : Nat} (h : ∀ t ∈ ts, t.length ≤ m) : ∀ k, lenK ts k ≤ (m + 1) * k
  | 0 => by simp [lenK]
  | k + 1 => by
    have ih := lenK_le h k
    rw [Nat.mul_succ]
    rcases Nat.lt_or_ge k ts.length with hk | hk
    · have := h _ (List.getElem_mem hk)
      unfold lenK at ih ⊢
      rw [fm_succ hk, List.length_append, List.length_cons]; omega
    · unfold lenK at ih ⊢
      rw [List.take_of_length_le (by omega)] at ih ⊢; omega
/-- Who takes bytes. -/
structure Rd where
  rest : Str
  fail : Bool
abbrev Rd.box (r : Rd) : OB := .box [.d (.sl 1 (r.rest.map byteRow)), .d (.bool r.fail)]
def takeF (r : Rd) (n : Nat) : Str × Rd := if (r.rest.length : Int) < (n : Int) then (List.replicate n 0, ⟨r.rest, true⟩) else (r.rest.take n, ⟨r.rest.drop n, r.fail⟩)
theorem takeF_1 {r : Rd} {n : Nat} (h : (r.rest.length : Int) < (n : Int)) : takeF r n = (List.replicate n 0, ⟨r.rest, true⟩) := by unfold takeF; rw [if_pos h]
theorem takeF_2 {r : Rd} {n : Nat} (h : ¬ (r.rest.length : Int) < (n : Int)) : takeF r n = (r.rest.take n, ⟨r.rest.drop n, r.fail⟩) := by unfold takeF; rw [if_neg h]
theorem takeF_len {r : Rd} {n : Nat} : (takeF r n).1.length = n ∧ (takeF r n).2.rest.length ≤ r.rest.length := by
  unfold takeF; split
  · exact ⟨by simp, Nat.le_refl _⟩
  · exact ⟨by simp; omega, by simp⟩
def numF (r : Rd) : Nat × Rd := (((takeF r 1).1.getD 0 0).toNat, (takeF r 1).2)
theorem numF_lt {r : Rd} : (numF r).1 < 256 ∧ (numF r).2.rest.length ≤ r.rest.length := ⟨(((takeF r 1).1.getD 0 0)).toNat_lt, takeF_len.2⟩
def fldL : Nat → Rd → List Str → List Str × Rd
  | 0, r, l => (l, r)
  | n + 1, r, l => fldL n (takeF (numF r).2 (numF r).1).2 (l ++ [(takeF (numF r).2 (numF r).1).1])
def fieldsF (r : Rd) : List Str × Rd := fldL (numF r).1 (numF r).2 []
theorem fldL_len : ∀ {n : Nat} {r : Rd} {l : List Str}, (fldL n r l).1.length = l.length + n ∧ (fldL n r l).2.rest.length ≤ r.rest.length
  | 0, r, l => ⟨rfl, Nat.le_refl _⟩
  | n + 1, r, l => by
    obtain ⟨h1, h2⟩ := @fldL_len n (takeF (numF r).2 (numF r).1).2 (l ++ [(takeF (numF r).2 (numF r).1).1])
    have h3 := @takeF_len (numF r).2 (numF r).1
    have h4 := @numF_lt r
    exact ⟨by rw [fldL, h1]; simp; omega, by rw [fldL]; omega⟩
theorem fields_len {r : Rd} : (fieldsF r).1.length ≤ 255 ∧ (fieldsF r).2.rest.length ≤ r.rest.length := by
  obtain ⟨h1, h2⟩ := @fldL_len (numF r).1 (numF r).2 []
  have := @numF_lt r
  unfold fieldsF
  exact ⟨by rw [h1, List.length_nil]; omega, by omega⟩
def doneF (r : Rd) : Bool := !r.fail && decide ((r.rest.length : Int) = 0)
theorem byteOf_len {t : Str} (h : t.length ≤ 255) : (byteOf t.length).toNat = t.length := by have := byteOf_nat t.length; omega
theorem numF_cons {c : UInt8} {b : Str} : numF ⟨c :: b, false⟩ = (c.toNat, ⟨b, false⟩) := by
  unfold numF; rw [takeF_2 (by simp; omega)]; simp
theorem fldL_put : ∀ {ts : List Str} {l : List Str} {b : Str}, (∀ t ∈ ts, t.length ≤ 255) → fldL ts.length ⟨ts.flatMap fieldB ++ b, false⟩ l = (l ++ ts, ⟨b, false⟩)
  | [], l, b, _ => by simp [fldL]
  | t :: ts, l, b, h => by
    have e : (t :: ts).flatMap fieldB ++ b = byteOf t.length :: (t ++ (ts.flatMap fieldB ++ b)) := by simp [fieldB]
    have ht := h t (List.mem_cons_self ..)
    rw [e, List.length_cons, fldL, numF_cons, byteOf_len ht]
    dsimp only
    rw [takeF_2 (by simp only [List.length_append]; omega)]
    dsimp only
    rw [List.take_left, List.drop_left, fldL_put (fun t ht => h t (List.mem_cons_of_mem _ ht))]
    simp
theorem fieldsF_put {ts : List Str} (hl : ts.length ≤ 255) (h : ∀ t ∈ ts, t.length ≤ 255) : fieldsF ⟨byteOf ts.length :: ts.flatMap fieldB, false⟩ = (ts, ⟨[], false⟩) := by
  have hb : (byteOf (ts.length : Int)).toNat = ts.length := by have := byteOf_nat ts.length; omega
  unfold fieldsF
  rw [numF_cons, hb]
  have := fldL_put (l := []) (b := []) h
  simpa using this
end Go.AM

/- Plain laws: pages, drawn pages, the bytes of pages. -/
namespace Go.AM
def pTexts : List Str := [[], [], [114, 101, 99], [114, 101, 99, 111, 114, 100], List.replicate 30 0]
theorem pTexts_len : ∀ t ∈ pTexts, t.length ≤ 30 := by decide +kernel
structure PG (p : Page) : Prop where
  ln : p.slots.length = 4
  st : ∀ t ∈ p.slots, t.length ≤ 30
  ls : 0 ≤ p.lsn ∧ p.lsn ≤ 1000
theorem PG.ok {p : Page} (h : PG p) : pageOK p = true := by
  unfold pageOK
  have h1 : inR p.lsn 0 1000 = true := inR_iff.2 h.ls
  have h2 : p.slots.any (fun s => decide (30 < s.length)) = false := by
    rw [List.any_eq_false]; intro t ht; have := h.st t ht; simp; omega
  rw [h1, h2, h.ln]; rfl
theorem PG.w {p : Page} (h : PG p) : p.slots.length ≤ 1048576 := by have := h.ln; omega
theorem set_st {l : List Str} {k m : Nat} {x : Str} (h : ∀ t ∈ l, t.length ≤ m) (hx : x.length ≤ m) : ∀ t ∈ l.set k x, t.length ≤ m := fun t ht => by
  rcases List.mem_or_eq_of_mem_set ht with q | q
  · exact h t q
  · rw [q]; exact hx
theorem nil4 : ∀ t ∈ ([[], [], [], []] : List Str), t.length ≤ 30 := by decide
def hdP (p : Page) : Bool := !inR p.lsn 0 1000 || !decide ((p.slots.length : Int) = 4)
theorem hdP_len {p : Page} (h : hdP p = false) : p.slots.length = 4 := by
  unfold hdP at h; simp only [Bool.or_eq_false_iff, Bool.not_eq_false', decide_eq_true_eq] at h; omega
theorem pageOK_int {p : Page} : pageOK p = ((inR p.lsn 0 1000 && decide ((p.slots.length : Int) = 4)) && !p.slots.any (fun s => decide ((30 : Int) < (s.length : Int)))) := by
  unfold pageOK
  rw [show decide ((p.slots.length : Int) = 4) = decide (p.slots.length = 4) from decide_eq_decide.2 (by omega), show (fun s : Str => decide ((30 : Int) < (s.length : Int))) = fun s => decide (30 < s.length) from funext fun s => decide_eq_decide.2 (by omega)]
theorem hdP_in {p : Page} (h : hdP p = false) : (inR p.lsn 0 1000 && decide ((p.slots.length : Int) = 4)) = true := by
  unfold hdP at h; simp only [Bool.or_eq_false_iff, Bool.not_eq_false'] at h; rw [h.1, h.2]; rfl
theorem pageOK_hd {p : Page} (h : hdP p = true) : pageOK p = false := by
  rw [pageOK_int]; unfold hdP at h
  cases h1 : inR p.lsn 0 1000 with
  | false => rfl
  | true => rw [h1] at h; simp only [Bool.not_true, Bool.false_or, Bool.not_eq_true'] at h; rw [h]; rfl
noncomputable def samP (x y : Page) : Bool := decide (x.lsn = y.lsn) && eqb x.slots y.slots
theorem samP_rfl {x : Page} : samP x x = true := by unfold samP; rw [eqb_rfl]; simp
theorem idx_eq {xs : List Str} : idxOf (fun s => eqb [] s) xs 0 = idxOf (fun s => decide (s = [])) xs 0 := by
  rw [show (fun s : Str => eqb [] s) = fun s => decide (s = []) from funext fun s => by by_cases h : s = [] <;> simp [h, eqb_rfl, eqb_f, Ne.symm]]
theorem getDs {l : List Str} {i : Nat} (h : i < l.length) : l.getD i [] = l[i] := by simp [List.getD, h]
theorem set_get {p : Page} {i : Nat} {a n : Int} {x : Str} (hi : i < p.slots.length) (ha : 0 ≤ a) : (⟨n, p.slots.set a.toNat x⟩ : Page).slots.getD i [] = if (i : Int) = a then x else p.slots.getD i [] := by
  dsimp only
  by_cases h : (i : Int) = a
  · rw [if_pos h, show a.toNat = i from by omega]; simp [List.getD, hi]
  · rw [if_neg h, List.getD_eq_getElem?_getD, List.getElem?_set_ne (by omega), List.getD_eq_getElem?_getD]
theorem rows_all {l : Str} : (((l.map byteRow).drop 0).take l.length) = l.map byteRow := by simp [List.take_of_length_le]
def usedK (ts : List Str) (k : Nat) : Nat := (ts.take k).countP (fun s => decide (s ≠ []))
def usedN (ts : List Str) : Nat := usedK ts ts.length
theorem usedK_t {ts : List Str} {k : Nat} (hk : k < ts.length) (h : ts[k] ≠ []) : usedK ts (k + 1) = usedK ts k + 1 := by
  unfold usedK; rw [take_succ hk, List.countP_append]; simp [h]
theorem usedK_f {ts : List Str} {k : Nat} (hk : k < ts.length) (h : ts[k] = []) : usedK ts (k + 1) = usedK ts k := by
  unfold usedK; rw [take_succ hk, List.countP_append]; simp [h]
theorem usedK_le {ts : List Str} {k : Nat} : usedK ts k ≤ k := Nat.le_trans (List.countP_le_length) (by rw [List.length_take]; omega)
theorem four_of {l : List Str} (h : l.length = 4) : ∃ a b c d, l = [a, b, c, d] := by
  match l, h with
  | [a, b, c, d], _ => exact ⟨a, b, c, d, rfl⟩
theorem ins_fact {p : Page} {F : Str} (h : PG p) (h0 : F ≠ []) (h1 : F.length ≤ 30) : ∃ q k c, pageInsert p F = (q, k, c) ∧ q.slots.length = 4 ∧ 0 ≤ k ∧ k < 4 ∧
    ((c = 7 ∧ usedN p.slots = 4) ∨ (c = 0 ∧ usedN p.slots ≠ 4 ∧ pageOK q = true ∧ usedN q.slots = usedN p.slots + 1 ∧ q.slots.getD k.toNat [] = F ∧ p.slots.getD k.toNat [] = [])) := by
  have hok := h.ok
  have hF : inR F.length 1 30 = true := inR_iff.2 ⟨by cases F with | nil => exact absurd rfl h0 | cons a b => simp; omega, by omega⟩
  obtain ⟨a, b, c, d, hs⟩ := four_of h.ln
  have hq : ∀ k, pageOK ⟨p.lsn, p.slots.set k F⟩ = true := fun k => PG.ok ⟨by simp [h.ln], set_st h.st h1, h.ls⟩
  have e : pageInsert p F = if idxOf (fun s => decide (s = [])) p.slots 0 < 0 then (p, 0, 7) else (⟨p.lsn, p.slots.set (idxOf (fun s => decide (s = [])) p.slots 0).toNat F⟩, idxOf (fun s => decide (s = [])) p.slots 0, 0) := by
    unfold pageInsert; rw [if_neg (by omega), if_neg (by rw [hok]; simp), if_neg (by rw [hF]; simp)]
  have go : ∀ k : Nat, k < 4 → idxOf (fun s => decide (s = [])) p.slots 0 = k → usedN p.slots ≠ 4 → usedN (p.slots.set k F) = usedN p.slots + 1 → p.slots.getD k [] = [] → _ := fun k hk hi hu hu2 hg =>
    (⟨⟨p.lsn, p.slots.set k F⟩, k, 0, by rw [e, hi, if_neg (by omega)]; rfl, by simp [h.ln], by omega, by omega, .inr ⟨rfl, hu, hq k, hu2, by simp [List.getD, h.ln, hk], hg⟩⟩ :
      ∃ q k c, pageInsert p F = (q, k, c) ∧ q.slots.length = 4 ∧ 0 ≤ k ∧ k < 4 ∧
    ((c = 7 ∧ usedN p.slots = 4) ∨ (c = 0 ∧ usedN p.slots ≠ 4 ∧ pageOK q = true ∧ usedN q.slots = usedN p.slots + 1 ∧ q.slots.getD k.toNat [] = F ∧ p.slots.getD k.toNat [] = [])))
  have hln := h.ln; rw [hs] at go e hln ⊢
  by_cases ha : a = []
  · subst ha
    exact go 0 (by omega) (by simp [idxOf]) (by simp only [usedN, usedK, List.length_cons, List.length_nil, List.take, List.countP_cons, List.countP_nil]; simp; split <;> split <;> split <;> omega) (by simp [usedN, usedK, List.countP_cons, h0]) rfl
  by_cases hb : b = []
  · subst hb
    exact go 1 (by omega) (by simp [idxOf, ha]) (by simp only [usedN, usedK, List.length_cons, List.length_nil, List.take, List.countP_cons, List.countP_nil]; simp [ha]; split <;> split <;> omega) (by simp [usedN, usedK, List.countP_cons, h0, ha]) rfl
  by_cases hc : c = []
  · subst hc
    exact go 2 (by omega) (by simp [idxOf, ha, hb]) (by simp only [usedN, usedK, List.length_cons, List.length_nil, List.take, List.countP_cons, List.countP_nil]; simp [ha, hb]; split <;> omega) (by simp [usedN, usedK, List.countP_cons, h0, ha, hb]) rfl
  by_cases hd : d = []
  · subst hd
    exact go 3 (by omega) (by simp [idxOf, ha, hb, hc]) (by simp [usedN, usedK, List.countP_cons, ha, hb, hc]) (by simp [usedN, usedK, List.countP_cons, h0, ha, hb, hc]) rfl
  exact ⟨p, 0, 7, by rw [e, if_pos (by simp [idxOf, ha, hb, hc, hd])], h.ln, by omega, by omega, .inl ⟨rfl, by simp [usedN, usedK, List.countP_cons, ha, hb, hc, hd]⟩⟩
theorem set_ok {p : Page} {k : Int} {F : Str} {n : Int} (h : PG p) (hk : 0 ≤ k ∧ k < 4) (h1 : F.length ≤ 30) (hn : 0 ≤ n ∧ n ≤ 1000) : pageSet p k F n = (⟨n, p.slots.set k.toNat F⟩, 0) ∧ PG ⟨n, p.slots.set k.toNat F⟩ := by
  refine ⟨(pageSet_set (by omega) h.ok ?_).1, ⟨by simp [h.ln], set_st h.st h1, hn⟩⟩
  rw [inR_iff.2 (show 0 ≤ k ∧ k ≤ 3 by omega), inR_iff.2 hn]; simp; omega
theorem putFs_app {b : Str} {ts : List Str} : b ++ putFs [] ts = putFs b ts := by
  unfold putFs putK; simp
theorem putFs_len {b : Str} {ts : List Str} : (putFs b ts).length = b.length + (putFs [] ts).length := by rw [← putFs_app (b := b), List.length_append]
/-- The bytes of a page. -/
def pbF (no : Int) (p : Page) : Str := sealB (putFs [112, byteOf no, shB p.lsn 8, byteOf p.lsn] p.slots)
def hdF (b : Str) : Str := (takeF ⟨b, false⟩ 4).1
def rdP (b : Str) : Page := ⟨bigN ((hdF b).drop 2), (fieldsF (takeF ⟨b, false⟩ 4).2).1⟩
def rdE (b : Str) : Rd := (fieldsF (takeF ⟨b, false⟩ 4).2).2
def badP (no : Int) (b : Str) : Bool := ((!doneF (rdE b) || !decide ((((hdF b).getD 0 0).toNat : Int) = 112)) || !decide ((((hdF b).getD 1 0).toNat : Int) = no)) || !pageOK (rdP b)
def rpF (no : Int) (b : Str) : Page × Int := if 65536 < (b.length : Int) then (.zero, 2) else if (unsealF b).2 = false then (.zero, 8) else if badP no (unsealF b).1 = true then (.zero, 3) else (rdP (unsealF b).1, 0)
section
variable {no : Int} {b : Str}
theorem rpF_1 (h : 65536 < (b.length : Int)) : rpF no b = (.zero, 2) := by unfold rpF; rw [if_pos h]
theorem rpF_2 (h : ¬ 65536 < (b.length : Int)) (h1 : (unsealF b).2 = false) : rpF no b = (.zero, 8) := by unfold rpF; rw [if_neg h, if_pos h1]
theorem rpF_3 (h : ¬ 65536 < (b.length : Int)) (h1 : (unsealF b).2 = true) (h2 : badP no (unsealF b).1 = true) : rpF no b = (.zero, 3) := by unfold rpF; rw [if_neg h, if_neg (by rw [h1]; simp), if_pos h2]
theorem rpF_4 (h : ¬ 65536 < (b.length : Int)) (h1 : (unsealF b).2 = true) (h2 : badP no (unsealF b).1 = false) : rpF no b = (rdP (unsealF b).1, 0) := by unfold rpF; rw [if_neg h, if_neg (by rw [h1]; simp), if_neg (by rw [h2]; simp)]
end
theorem hdF_len {b : Str} : (hdF b).length = 4 := takeF_len.1
theorem pb_len {no : Int} {p : Page} (h : PG p) : (pbF no p).length ≤ 160 := by
  unfold pbF putFs; rw [seal_len, putK_len]
  have := lenK_le (k := p.slots.length) h.st
  rw [h.ln] at this ⊢
  simp only [List.length_cons, List.length_nil]; omega
theorem rp_pb {no nx : Int} {p : Page} (h : PG p) (hn : 0 ≤ no ∧ no ≤ 255) : rpF nx (pbF no p) = if no = nx then (p, 0) else (.zero, 3) := by
  have hl := pb_len (no := no) h
  have hu : unsealF (pbF no p) = (putFs [112, byteOf no, shB p.lsn 8, byteOf p.lsn] p.slots, true) := unseal_seal
  have e : putFs [112, byteOf no, shB p.lsn 8, byteOf p.lsn] p.slots = [112, byteOf no, shB p.lsn 8, byteOf p.lsn] ++ (byteOf p.slots.length :: p.slots.flatMap fieldB) := by
    unfold putFs putK; rw [List.take_of_length_le (Nat.le_refl _)]; simp
  have et : takeF ⟨putFs [112, byteOf no, shB p.lsn 8, byteOf p.lsn] p.slots, false⟩ 4 = ([112, byteOf no, shB p.lsn 8, byteOf p.lsn], ⟨byteOf p.slots.length :: p.slots.flatMap fieldB, false⟩) := by
    rw [e, takeF_2 (by simp; omega)]; rfl
  have ef : fieldsF ⟨byteOf p.slots.length :: p.slots.flatMap fieldB, false⟩ = (p.slots, ⟨[], false⟩) := fieldsF_put (by have := h.ln; omega) (fun t ht => by have := h.st t ht; omega)
  have ep : rdP (unsealF (pbF no p)).1 = p := by
    rw [hu]; unfold rdP hdF; rw [et, ef]
    show (⟨(bigN (twoB p.lsn) : Int), p.slots⟩ : Page) = p
    have hls := h.ls
    have : ((p.lsn.toNat : Nat) : Int) = p.lsn := by omega
    rw [← this, bigN_two (by omega), this]
  have eb : badP nx (unsealF (pbF no p)).1 = !decide (no = nx) := by
    unfold badP; rw [ep, h.ok]; rw [hu]; unfold rdE hdF; rw [et, ef]
    have hb := byteOf_nat no
    rw [show no % 256 = no from by omega] at hb
    show (((!true || !true) || !decide (((byteOf no).toNat : Int) = nx)) || false) = _
    rw [hb]; simp
  by_cases hx : no = nx
  · rw [rpF_4 (by omega) (by rw [hu]) (by rw [eb, decide_eq_true hx]; rfl), ep, if_pos hx]
  · rw [rpF_3 (by omega) (by rw [hu]) (by rw [eb, decide_eq_false hx]; rfl), if_neg hx]
end Go.AM

/- Plain laws: sorting by insertion; the order of rows; drawn rows. -/
namespace Go.AM
section
variable {α : Type}
/-- Where a value goes: behind the last of the first 'k' that it isn't ahead of. -/
def posI (lt : α → α → Bool) (x : α) (l : List α) : Nat → Nat
  | 0 => 0
  | k + 1 => match l[k]? with
    | none => posI lt x l k
    | some y => if lt x y = true then posI lt x l k else k + 1
variable {lt : α → α → Bool} {x : α} {l : List α}
theorem posI_le : ∀ {k : Nat}, posI lt x l k ≤ k
  | 0 => Nat.le_refl _
  | k + 1 => by
    rw [posI]; split
    · exact Nat.le_succ_of_le posI_le
    · split
      · exact Nat.le_succ_of_le posI_le
      · exact Nat.le_refl _
theorem posI_t {k : Nat} (hk : k < l.length) (h : lt x l[k] = true) : posI lt x l (k + 1) = posI lt x l k := by
  rw [posI, List.getElem?_eq_getElem hk]; dsimp only; rw [if_pos h]
theorem posI_f {k : Nat} (hk : k < l.length) (h : lt x l[k] = false) : posI lt x l (k + 1) = k + 1 := by
  rw [posI, List.getElem?_eq_getElem hk]; dsimp only; rw [if_neg (by rw [h]; simp)]
def insS (lt : α → α → Bool) (l : List α) (x : α) : List α := l.take (posI lt x l l.length) ++ x :: l.drop (posI lt x l l.length)
def sortS (lt : α → α → Bool) (l : List α) : List α := l.foldl (insS lt) []
theorem insS_len : (insS lt l x).length = l.length + 1 := by
  have := @posI_le α lt x l l.length
  unfold insS; simp; omega
theorem sortS_len : (sortS lt l).length = l.length := by
  unfold sortS
  suffices h : ∀ (l a : List α), (l.foldl (insS lt) a).length = a.length + l.length from by have := h l []; simpa using this
  intro l
  induction l with
  | nil => intro a; rfl
  | cons x l ih => intro a; rw [List.foldl_cons, ih, insS_len, List.length_cons]; omega
theorem sortS_take {k : Nat} (hk : k < l.length) : sortS lt (l.take (k + 1)) = insS lt (sortS lt (l.take k)) l[k] := by
  rw [take_succ hk]; unfold sortS; rw [List.foldl_append]; rfl
theorem insS_mem {y : α} : y ∈ insS lt l x ↔ y = x ∨ y ∈ l := by
  unfold insS
  rw [List.mem_append, List.mem_cons]
  constructor
  · rintro (h | h | h)
    · exact .inr (List.mem_of_mem_take h)
    · exact .inl h
    · exact .inr (List.mem_of_mem_drop h)
  · rintro (h | h)
    · exact .inr (.inl h)
    · rw [← List.take_append_drop (posI lt x l l.length) l] at h
      rcases List.mem_append.1 h with h | h
      · exact .inl h
      · exact .inr (.inr h)
theorem sortS_mem {y : α} : y ∈ sortS lt l ↔ y ∈ l := by
  unfold sortS
  suffices h : ∀ (l a : List α), y ∈ l.foldl (insS lt) a ↔ y ∈ a ∨ y ∈ l from by have := h l []; simpa using this
  intro l
  induction l with
  | nil => intro a; simp
  | cons x l ih =>
    intro a; rw [List.foldl_cons, ih, insS_mem, List.mem_cons]
    constructor
    · rintro ((h | h) | h)
      · exact .inr (.inl h)
      · exact .inl h
      · exact .inr (.inr h)
    · rintro (h | h | h)
      · exact .inl (.inr h)
      · exact .inl (.inl h)
      · exact .inr h
/-- None is ahead of the one in front of it. -/
def chain (lt : α → α → Bool) : List α → Prop
  | [] => True
  | [_] => True
  | a :: b :: r => lt b a = false ∧ chain lt (b :: r)
theorem chain_get : ∀ {l : List α}, chain lt l → ∀ i (h : i + 1 < l.length), lt l[i + 1] l[i] = false
  | a :: b :: r, hc, 0, h => hc.1
  | a :: b :: r, hc, i + 1, h => chain_get hc.2 i (by simpa using h)
  | [a], _, i, h => by simp at h
  | [], _, i, h => by simp at h
theorem chain_of : ∀ {l : List α}, (∀ i (h : i + 1 < l.length), lt l[i + 1] l[i] = false) → chain lt l
  | [], _ => trivial
  | [a], _ => trivial
  | a :: b :: r, h => ⟨h 0 (by simp), chain_of (fun i hi => h (i + 1) (by simpa using hi))⟩
theorem posI_right : ∀ {k : Nat}, k ≤ l.length → ∀ j, posI lt x l k ≤ j → (h : j < k) → (hl : j < l.length) → lt x l[j] = true
  | 0, _, j, _, h, _ => by omega
  | k + 1, hk, j, hj, h, hl => by
    cases hh : lt x (l[k]'(by omega)) with
    | true =>
      rw [posI_t (by omega) hh] at hj
      rcases Nat.lt_or_ge j k with h1 | h1
      · exact posI_right (by omega) j hj h1 hl
      · have : j = k := by omega
        subst this; exact hh
    | false => rw [posI_f (by omega) hh] at hj; omega
theorem posI_left : ∀ {k : Nat}, k ≤ l.length → (h : 0 < posI lt x l k) → (hl : posI lt x l k - 1 < l.length) → lt x l[posI lt x l k - 1] = false
  | 0, _, h, _ => by simp [posI] at h
  | k + 1, hk, h, hl => by
    cases hh : lt x (l[k]'(by omega)) with
    | true =>
      have e : posI lt x l (k + 1) = posI lt x l k := posI_t (by omega) hh
      have := posI_left (k := k) (by omega) (by omega) (by omega)
      simp only [e]; exact this
    | false =>
      have e : posI lt x l (k + 1) = k + 1 := posI_f (by omega) hh
      simp only [e]; exact hh
theorem insP_chain {p : Nat} (hle : p ≤ l.length) (g : ∀ i (h : i + 1 < l.length), lt l[i + 1] l[i] = false) (hL : ∀ i (h : i < l.length), i + 1 = p → lt x l[i] = false) (hR : ∀ h : p < l.length, lt l[p] x = false) : chain lt (l.take p ++ x :: l.drop p) := by
  refine chain_of fun i hi => ?_
  have ht : (l.take p).length = p := by rw [List.length_take]; omega
  have hi : i + 1 < l.length + 1 := by simp at hi; omega
  rcases Nat.lt_trichotomy (i + 1) p with h | h | h
  · rw [List.getElem_append_left (by omega), List.getElem_append_left (by omega), List.getElem_take, List.getElem_take]
    exact g i (by omega)
  · rw [List.getElem_append_right (by omega), List.getElem_append_left (by omega), List.getElem_take]
    simp only [ht, show i + 1 - p = 0 from by omega, List.getElem_cons_zero]
    exact hL i (by omega) h
  · rcases Nat.eq_or_lt_of_le (show p ≤ i by omega) with h2 | h2
    · subst h2
      rw [List.getElem_append_right (by omega), List.getElem_append_right (by omega)]
      simp only [ht, Nat.sub_self, List.getElem_cons_zero, show p + 1 - p = 0 + 1 from by omega, List.getElem_cons_succ, List.getElem_drop, Nat.add_zero]
      exact hR (by omega)
    · rw [List.getElem_append_right (by omega), List.getElem_append_right (by omega)]
      obtain ⟨d, rfl⟩ : ∃ d, i = p + 1 + d := ⟨i - (p + 1), by omega⟩
      simp only [ht, show p + 1 + d + 1 - p = d + 1 + 1 from by omega, show p + 1 + d - p = d + 1 from by omega, List.getElem_cons_succ, List.getElem_drop]
      have := g (p + d) (by omega)
      simpa only [show p + (d + 1) = p + d + 1 from by omega] using this
theorem insS_chain (hs : ∀ a b : α, lt a b = true → lt b a = false) (hc : chain lt l) : chain lt (insS lt l x) := by
  have hle := @posI_le α lt x l l.length
  refine insP_chain hle (chain_get hc) (fun i hi hp => ?_) (fun h => hs _ _ (posI_right (Nat.le_refl _) _ (Nat.le_refl _) h h))
  have := posI_left (lt := lt) (x := x) (Nat.le_refl l.length) (by omega) (by omega)
  simpa only [show posI lt x l l.length - 1 = i from by omega] using this
theorem sortS_chain (hs : ∀ a b : α, lt a b = true → lt b a = false) : chain lt (sortS lt l) := by
  unfold sortS
  suffices h : ∀ (l a : List α), chain lt a → chain lt (l.foldl (insS lt) a) from h l [] trivial
  intro l
  induction l with
  | nil => exact fun a h => h
  | cons x l ih => exact fun a h => ih _ (insS_chain hs h)
/-- A value on its way through what is sorted. -/
def dat (S : List α) (x : α) (rest : List α) (j : Nat) : List α := S.take j ++ x :: (S.drop j ++ rest)
theorem dat_len {S rest : List α} {j : Nat} (h : j ≤ S.length) : (dat S x rest j).length = S.length + 1 + rest.length := by unfold dat; simp; omega
theorem dat_0 {S rest : List α} : dat S x rest S.length = S ++ x :: rest := by unfold dat; simp
theorem dat_x {S rest : List α} {j : Nat} (h : j ≤ S.length) : (dat S x rest j)[j]? = some x := by
  unfold dat; rw [List.getElem?_append_right (by rw [List.length_take]; omega)]; simp [List.length_take, Nat.min_eq_left h]
theorem dat_y {S rest : List α} {j : Nat} (h : j + 1 ≤ S.length) : (dat S x rest (j + 1))[j]? = some (S[j]'(by omega)) := by
  unfold dat; rw [List.getElem?_append_left (by rw [List.length_take]; omega)]; simp [List.getElem?_take]
theorem dat_step {S rest : List α} {j : Nat} (h : j + 1 ≤ S.length) : ((dat S x rest (j + 1)).set (j + 1) (S[j]'(by omega))).set j x = dat S x rest j := by
  unfold dat
  have e1 : S.take (j + 1) = S.take j ++ [S[j]'(by omega)] := take_succ (by omega)
  have e2 : S.drop j = (S[j]'(by omega)) :: S.drop (j + 1) := List.drop_eq_getElem_cons (by omega)
  have ht : (S.take j).length = j := by rw [List.length_take]; omega
  rw [e1, e2, List.append_assoc, List.set_append_right _ _ (by omega), List.set_append_right _ _ (by omega), ht]
  rw [show j + 1 - j = 0 + 1 from by omega, Nat.sub_self]
  simp
  rw [e2]; rfl
theorem dat_end {S rest : List α} : dat S x rest (posI lt x S S.length) = insS lt S x ++ rest := by unfold dat insS; simp
end
/-! The order of rows. -/
theorem less_asym : ∀ {a b : Str}, Op.bytesLess a b = true → Op.bytesLess b a = false
  | _, [], h => by rw [Op.bytesLess] at h; cases h
  | [], b :: y, _ => by rw [Op.bytesLess]
  | a :: x, b :: y, h => by
    rw [Op.bytesLess] at h ⊢
    simp only [Bool.or_eq_true, decide_eq_true_eq, Bool.and_eq_true, beq_iff_eq, Bool.or_eq_false_iff, decide_eq_false_iff_not] at h ⊢
    rcases h with h | ⟨h, h1⟩
    · refine ⟨fun h2 => absurd (UInt8.lt_trans h h2) (UInt8.lt_irrefl _), ?_⟩
      cases hb : (b == a) with
      | false => rfl
      | true => rw [beq_iff_eq] at hb; subst hb; exact absurd h (UInt8.lt_irrefl _)
    · subst h; rw [less_asym h1]; exact ⟨UInt8.lt_irrefl _, by simp⟩
theorem less_tot : ∀ {a b : Str}, a ≠ b → Op.bytesLess a b = false → Op.bytesLess b a = true
  | [], [], h, _ => absurd rfl h
  | a :: x, [], _, _ => by rw [Op.bytesLess]
  | [], b :: y, _, h => by rw [Op.bytesLess] at h; cases h
  | a :: x, b :: y, hn, h => by
    rw [Op.bytesLess] at h ⊢
    simp only [Bool.or_eq_true, decide_eq_true_eq, Bool.and_eq_true, beq_iff_eq, Bool.or_eq_false_iff, decide_eq_false_iff_not] at h ⊢
    obtain ⟨h1, h2⟩ := h
    by_cases hab : a = b
    · subst hab
      right
      refine ⟨rfl, less_tot (fun e => hn (by rw [e])) ?_⟩
      simpa using h2
    · left
      have : a.toNat ≠ b.toNat := fun e => hab (UInt8.toNat_inj.1 e)
      rw [UInt8.lt_iff_toNat_lt] at h1 ⊢; omega
theorem cmpI_anti {a b : Int} : cmpI a b = - cmpI b a := by unfold cmpI; split <;> split <;> (try split) <;> (try split) <;> omega
theorem cmpS_anti {a b : Str} : cmpS a b = - cmpS b a := by
  unfold cmpS
  by_cases h : a = b
  · rw [if_pos h, if_pos h.symm]; rfl
  · rw [if_neg h, if_neg (Ne.symm h)]
    cases hl : Op.bytesLess a b with
    | true => rw [less_asym hl]; rfl
    | false => rw [less_tot h hl]; rfl
theorem cmpV_anti {a b : GValue} : cmpV a b = - cmpV b a := by
  unfold cmpV
  by_cases h : a.Kind = b.Kind
  · by_cases h2 : a.N = b.N
    · simp only [h, h2, ne_eq, not_true_eq_false, if_false]; exact cmpS_anti
    · have h3 : ¬ b.N = a.N := Ne.symm h2
      simp only [h, ne_eq, not_true_eq_false, if_false, h2, not_false_eq_true, if_true, h3]; exact cmpI_anti
  · have h3 : ¬ b.Kind = a.Kind := Ne.symm h
    simp only [ne_eq, h, h3, not_false_eq_true, if_true]; exact cmpI_anti
def cmpR (k : Int) (a b : GRow) : Int := orF [cmpV (colF a k) (colF b k), cmpI a.Id b.Id]
theorem cmpR_eq {k : Int} {a b : GRow} : cmpR k a b = if cmpV (colF a k) (colF b k) ≠ 0 then cmpV (colF a k) (colF b k) else cmpI a.Id b.Id := by
  unfold cmpR
  show (if _ then _ else if cmpI a.Id b.Id ≠ 0 then cmpI a.Id b.Id else 0) = _
  split
  · rfl
  · split
    · rfl
    · rename_i h; exact (Classical.not_not.1 h).symm
theorem cmpR_anti {k : Int} {a b : GRow} : cmpR k a b = - cmpR k b a := by
  rw [cmpR_eq, cmpR_eq]
  have h := @cmpV_anti (colF a k) (colF b k)
  split
  · rw [if_pos (by omega)]; exact h
  · rw [if_neg (by omega)]; exact cmpI_anti
def ltR (k : Int) (a b : GRow) : Bool := decide (cmpR k a b < 0)
theorem ltR_asym {k : Int} : ∀ a b : GRow, ltR k a b = true → ltR k b a = false := fun a b h => by
  unfold ltR at h ⊢
  have h := of_decide_eq_true h
  have := @cmpR_anti k a b
  exact decide_eq_false (by omega)
theorem cmpV_ids {a b : Int} : cmpV (vI a) (vI b) = cmpI a b := by
  unfold cmpV vI
  by_cases h : a = b
  · subst h; simp [cmpS, cmpI]
  · simp [h]
/-- Drawn rows. -/
structure RG (l : List GRow) (m : Int) : Prop where
  ln : (l.length : Int) ≤ m
  ok : ∀ r ∈ l, rowOK r = true
  up : ∀ i (h : i + 1 < l.length), l[i].Id < l[i + 1].Id
  id : ∀ r ∈ l, r.Id < m
theorem rowOK_id {r : GRow} {i : Int} (h : rowOK r = true) (hi : 0 ≤ i ∧ i ≤ 1000) : rowOK ⟨i, r.N, r.Name⟩ = true := by
  unfold rowOK at h ⊢
  simp only [Bool.and_eq_true] at h ⊢
  obtain ⟨⟨⟨⟨_, h2⟩, h3⟩, h4⟩, h5⟩ := h
  exact ⟨⟨⟨⟨inR_iff.2 hi, h2⟩, h3⟩, h4⟩, h5⟩
theorem RG.app {l : List GRow} {m : Int} {r : GRow} (h : RG l m) (hr : rowOK r = true) (he : r.Id = m) : RG (l ++ [r]) (m + 1) := ⟨by simp; have := h.ln; omega, fun x hx => by
    rcases List.mem_append.1 hx with q | q
    · exact h.ok x q
    · rw [List.mem_singleton] at q; subst q; exact hr, fun i hi => by
    rw [List.length_append, List.length_singleton] at hi
    rcases Nat.lt_or_ge (i + 1) l.length with q | q
    · rw [List.getElem_append_left (by omega), List.getElem_append_left (by omega)]; exact h.up i q
    · have : i + 1 = l.length := by omega
      rw [List.getElem_append_left (by omega), List.getElem_append_right (by omega)]
      simp only [this, Nat.sub_self, List.getElem_singleton]
      have := h.id _ (List.getElem_mem (show i < l.length by omega)); omega, fun x hx => by
    rcases List.mem_append.1 hx with q | q
    · have := h.id x q; omega
    · rw [List.mem_singleton] at q; subst q; omega⟩
theorem RG.more {l : List GRow} {m : Int} (h : RG l m) : RG l (m + 1) := ⟨by have := h.ln; omega, h.ok, h.up, fun r hr => by have := h.id r hr; omega⟩
theorem RG.nil : RG [] 0 := ⟨by simp, fun _ h => (by cases h), fun i h => (by simp at h), fun _ h => (by cases h)⟩
end Go.AM

/- Calls of closures that are plain data, in a region that draws its order. -/
namespace Go.AM
theorem AL_app {X : Nat → Prop} {β : Names} {w : World} : ∀ {xs ys : List AV} {us vs : List Value}, AL X β w xs us → AL X β w ys vs → AL X β w (xs ++ ys) (us ++ vs)
  | [], ys, us, vs, h1, h2 => by rw [AL] at h1; subst h1; exact h2
  | x :: xs, ys, us, vs, h1, h2 => by
    rw [AL] at h1
    obtain ⟨v, r, rfl, h3, h4⟩ := h1
    rw [List.cons_append, List.cons_append, AL]
    exact ⟨v, _, rfl, h3, AL_app h4 h2⟩
theorem ax_callvq {C : Cx} {gs : List Gd} {K : St → Prop} {sl : List (Nat × AV)} {own : List (Nat × OB)} {d : Nat} {x : XA} {f : Nat} {args : List XA} {its : List XI} {vs args0 : List AV} {ds : List D} {r : AV} {P : Program} {mv : Nat → Bool} {v : Value}
    (hx : evA sl x = some (.d (.fn (.func f) ds))) (hb : hasBody C.P f = true) (ha : evL sl args = some vs) (hcon : Con P mv f args0 [] (fun r' h' => r' = r ∧ h' = [])) (hP : C.P = P) (hl : LAL own (vs ++ ds.map AV.d) args0) (hv : scVal r = some v)
    (h : AXI C true gs its ⟨(d, r) :: sl, own⟩ K) : AXI C true gs (.callv (some d) x args :: its) ⟨sl, own⟩ K := by
  intro ops W R lo i k hf rest a w S G H
  subst hP
  obtain ⟨m, h1, h2, h3, h4⟩ := fitIs_cons hf
  obtain ⟨o, y, as, ts, ho, hop, hg, hd, hfr, hy, hfx, rfl⟩ := callv_fit h1
  rw [range_split (by omega) h4, range_one, List.append_assoc, List.singleton_append]
  obtain ⟨β, S⟩ := S
  have hF := AR_of_fitA S hy hx
  rw [AR, DR] at hF
  obtain ⟨cv, hF, _⟩ := hF
  have e1 : as.map a.eval ++ cv = (as.toList.map a.eval ++ cv.toList).toArray := by simp
  refine R.callq rfl i _ a w o f (as.map a.eval ++ cv) v ho (wanted_of hg G) ?_ ?_
  · intro w' hw'
    have S' := S.ext hw'
    have hA := AL_of_fits S' hfx ha
    have hF' := AR_of_fitA S' hy hx
    rw [AR, DR] at hF'
    obtain ⟨cv', hF', hC⟩ := hF'
    have : cv' = cv := by rw [hF] at hF'; cases hF'; rfl
    subst this
    have hC := DL_AL (X := C.X) (β := β) hC
    refine ⟨by simp [execOp, hop, resolve, hF, Deferred.ofValue, invoke, callFunc_run hb], ?_⟩
    rw [e1]
    have hA' := LAL.al (X' := C.X) (β' := noN) S'.hr (fun b hb => ⟨hb.1, fun e he => by cases he⟩) (fun e b _ hb => ⟨S'.hr.notX e b hb, fun e he => by cases he⟩) hl (AL_app hA hC)
    refine (hcon C.X noN w' _ (fun b hb => by have := S'.xlt b hb; have := S'.fr.size; omega) (fun e b h => by cases h) ⟨fun e e' b h => (by cases h), fun e b h => (by cases h), fun e b h => (by cases h), fun e ob h => (by simp [get] at h)⟩ hA').mono ?_
    rintro e w'' ⟨u, r', h', β', he, ⟨rfl, rfl⟩, hr, _, F, _⟩
    rw [(scVal_iff hv _ _ _ _).1 hr] at he
    exact ⟨he, hw'.trans ⟨F.os, F.tape, F.output, F.size, fun b hb => F.same b hb (fun e h => by cases h)⟩⟩
  · rw [hd]
    exact h ops W R lo (i + 1) k h2 rest _ w ⟨β, S.put (dstFree_lt hfr d rfl) ((scVal_iff hv _ _ _ _).2 rfl)⟩ (G.put hfr) H
theorem datAt {α : Type} {row : α → List D} {l : List α} {j : Nat} {x : α} (h : l[j]? = some x) : (l.map row)[j]? = some (row x) := by rw [List.getElem?_map, h]; rfl
theorem sort_at {α : Type} {lt : α → α → Bool} {xs : List α} {k : Nat} (hk : k < xs.length) : sortS lt (xs.take k) ++ xs.drop k = dat (sortS lt (xs.take k)) xs[k] (xs.drop (k + 1)) k := by
  have e : (sortS lt (xs.take k)).length = k := by rw [sortS_len, List.length_take]; omega
  have := @dat_0 α xs[k] (sortS lt (xs.take k)) (xs.drop (k + 1))
  rw [e] at this
  rw [this, ← List.drop_eq_getElem_cons hk]
theorem sort_to {α : Type} {lt : α → α → Bool} {xs : List α} {k j : Nat} (hk : k < xs.length) (hj : posI lt xs[k] (sortS lt (xs.take k)) k = j) : dat (sortS lt (xs.take k)) xs[k] (xs.drop (k + 1)) j = sortS lt (xs.take (k + 1)) ++ xs.drop (k + 1) := by
  have e : (sortS lt (xs.take k)).length = k := by rw [sortS_len, List.length_take]; omega
  rw [sortS_take hk, ← dat_end, e, hj]
theorem sort_mem {α : Type} {lt : α → α → Bool} {xs : List α} {k j : Nat} {z : α} (hz : z ∈ xs) : (sortS lt (xs.take k)).getD j z ∈ xs := by
  rcases Nat.lt_or_ge j (sortS lt (xs.take k)).length with h | h
  · rw [show (sortS lt (xs.take k)).getD j z = (sortS lt (xs.take k))[j] from by simp [List.getD, h]]
    exact List.mem_of_mem_take (sortS_mem.1 (List.getElem_mem h))
  · rw [show (sortS lt (xs.take k)).getD j z = z from by simp [List.getD, h]]; exact hz
theorem sort_one {α : Type} {lt : α → α → Bool} {xs : List α} : sortS lt (xs.take 1) ++ xs.drop 1 = xs := by
  cases xs with
  | nil => rfl
  | cons x xs => simp [sortS, insS, posI]
theorem getD_in {α : Type} {l : List α} {j : Nat} {z : α} (h : j < l.length) : l.getD j z = l[j] := by simp [List.getD, h]
theorem dat_yD {α : Type} {S rest : List α} {x : α} {j : Nat} (h0 : 0 < j) (h : j ≤ S.length) : (dat S x rest j)[j - 1]? = some (S.getD (j - 1) x) := by
  obtain ⟨i, rfl⟩ : ∃ i, j = i + 1 := ⟨j - 1, by omega⟩
  rw [show i + 1 - 1 = i from rfl, dat_y h, getD_in (by omega)]
theorem lal_ds {own : List (Nat × OB)} : ∀ (ds : List D), LAL own (ds.map AV.d) (ds.map AV.d)
  | [] => .nil
  | x :: xs => .cons (.d x) (lal_ds xs)
theorem lal_two {own : List (Nat × OB)} {x y : AV} (hx : plain x = true) (hy : plain y = true) (ds : List D) : LAL own (x :: y :: ds.map AV.d) (x :: y :: ds.map AV.d) := .cons (la_id x hx) (.cons (la_id y hy) (lal_ds ds))
theorem app1p {α : Type} {row : α → List D} {xs : List α} {p : Nat} {y : α} {r : List D} (hl : (xs.take p).length = p) (h : r = row y := by rfl) : ((xs.take p).map row).take p ++ ([r].drop 0).take 1 = (xs.take p ++ [y]).map row := by
  subst h
  rw [List.take_of_length_le (l := (xs.take p).map row) (by rw [List.length_map]; omega)]; simp
theorem insA_app {α : Type} {row : α → List D} {xs : List α} {p i : Nat} {y : α} (h : p ≤ xs.length) (hi : xs.length = i := by omega) : (((xs.take p ++ [y]).map row).take (p + 1)) ++ ((xs.map row).drop p).take (i - p) = (insA xs p y).map row := by
  subst hi
  rw [List.take_of_length_le (l := (xs.take p ++ [y]).map row) (by simp; omega), List.take_of_length_le (l := (xs.map row).drop p) (by simp)]
  unfold insA; simp
theorem q_addB {C : Cx} {st : St} {x y : XA} {b : UInt8} (hx : evA st.sl x = some (int 0)) (hy : evA st.sl y = some (int b.toNat)) : QStep C st (.bin .add x y) (int b.toNat) :=
  q_as (q_ibin hx hy rfl) (by have := b.toNat_lt; rw [wi (by omega) (by omega)]; exact congrArg AM.int (by omega))
theorem bnd_u8 (b : UInt8) : ∃ m : Int, 0 ≤ m ∧ m ≤ 255 ∧ mkRes [int b.toNat] = int m := ⟨_, by omega, by have := b.toNat_lt; omega, rfl⟩
/-! Turning round. -/
section
variable {α : Type}
def swpL (l : List α) (i j : Nat) : List α := match l[i]?, l[j]? with
  | some a, some b => (l.set i b).set j a
  | _, _ => l
theorem swpL_at {l : List α} {i j : Nat} (hi : i < l.length) (hj : j < l.length) : swpL l i j = (l.set i l[j]).set j l[i] := by
  unfold swpL; rw [List.getElem?_eq_getElem hi, List.getElem?_eq_getElem hj]
theorem swpL_len {l : List α} {i j : Nat} : (swpL l i j).length = l.length := by unfold swpL; split <;> simp
def revK (l : List α) : Nat → List α
  | 0 => l
  | i + 1 => swpL (revK l i) i (l.length - 1 - i)
theorem revK_len {l : List α} : ∀ {i : Nat}, (revK l i).length = l.length
  | 0 => rfl
  | i + 1 => by rw [revK, swpL_len, revK_len]
theorem revK_get {l : List α} : ∀ {i : Nat}, 2 * i ≤ l.length → ∀ k (hk : k < l.length), (revK l i)[k]? = if k < i ∨ l.length - 1 - k < i then l[l.length - 1 - k]? else l[k]?
  | 0, _, k, hk => by rw [if_neg (by omega)]; rfl
  | i + 1, h, k, hk => by
    have ih := revK_get (l := l) (i := i) (by omega)
    have hl := @revK_len α l i
    have e1 := ih i (by omega)
    have e2 := ih (l.length - 1 - i) (by omega)
    rw [if_neg (by omega), List.getElem?_eq_getElem (show i < (revK l i).length by omega)] at e1
    rw [if_neg (by omega), List.getElem?_eq_getElem (show l.length - 1 - i < (revK l i).length by omega)] at e2
    rw [revK, swpL_at (by omega) (by omega), List.getElem?_set, List.getElem?_set]
    by_cases h1 : l.length - 1 - i = k
    · rw [if_pos h1, if_pos (by rw [List.length_set]; omega), e1, if_pos (by omega)]; congr 1; omega
    · rw [if_neg h1]
      by_cases h2 : i = k
      · rw [if_pos h2, if_pos (by omega), e2, if_pos (by omega)]; congr 1; omega
      · rw [if_neg h2, ih k hk]
        by_cases h3 : k < i ∨ l.length - 1 - k < i
        · rw [if_pos h3, if_pos (by omega)]
        · rw [if_neg h3, if_neg (by omega)]
theorem revK_all {l : List α} {i : Nat} (h : 2 * i ≤ l.length) (h2 : l.length ≤ 2 * i + 1) : revK l i = l.reverse := by
  apply List.ext_getElem?
  intro k
  rcases Nat.lt_or_ge k l.length with hk | hk
  · rw [revK_get h k hk, List.getElem?_reverse hk]
    split
    · rfl
    · congr 1; omega
  · rw [List.getElem?_eq_none (by rw [revK_len]; exact hk), List.getElem?_eq_none (by simpa using hk)]
end
/-! Sorted rows. -/
def srtF (xs : List GRow) (k : Int) (down : Bool) : List GRow := if down = true then (sortS (ltR k) xs).reverse else sortS (ltR k) xs
theorem srtF_len {xs : List GRow} {k : Int} {down : Bool} : (srtF xs k down).length = xs.length := by unfold srtF; split <;> simp [sortS_len]
theorem ltR_of {k : Int} {a b : GRow} (h : cmpV (colF b k) (colF a k) ≠ 0) : ltR k a b = decide (0 < cmpV (colF b k) (colF a k)) := by
  unfold ltR; rw [cmpR_anti, cmpR_eq, if_pos h]; exact decide_eq_decide.2 (by omega)
theorem ltR_of0 {k : Int} {a b : GRow} (h : cmpV (colF b k) (colF a k) = 0) : ltR k a b = decide (0 < cmpV (vI b.Id) (vI a.Id)) := by
  unfold ltR; rw [cmpR_anti, cmpR_eq, if_neg (by omega), cmpV_ids]; exact decide_eq_decide.2 (by omega)
def upTo (R : List GRow) : Bool := R.all rowOK
theorem RG.rowok {l : List GRow} {m : Int} (h : RG l m) {i : Nat} (hi : i < l.length) : rowOK l[i] = true := h.ok _ (List.getElem_mem hi)
noncomputable def fndK (R : List GRow) (x : GRow) (k : Nat) : Bool := (R.take k).any (fun y => eqb y x)
theorem fndK_succ {R : List GRow} {x : GRow} {k : Nat} (hk : k < R.length) : fndK R x (k + 1) = (fndK R x k || eqb R[k] x) := by
  unfold fndK; rw [take_succ hk, List.any_append]; simp
theorem fndK_all {R : List GRow} {x : GRow} (h : x ∈ R) : fndK R x R.length = true := by
  unfold fndK; rw [List.take_length]; exact List.any_eq_true.2 ⟨x, h, eqb_rfl x⟩
theorem up_le {xs : List GRow} {i : Nat} (h : i + 1 < (sortS (ltR 1) xs).length) : ¬ 0 < cmpV ((sortS (ltR 1) xs)[i]).N ((sortS (ltR 1) xs)[i + 1]).N := fun hc => by
  have h1 := chain_get (sortS_chain (l := xs) (lt := ltR 1) ltR_asym) i h
  rw [ltR_of (by show cmpV _ _ ≠ 0; show cmpV ((sortS (ltR 1) xs)[i]).N ((sortS (ltR 1) xs)[i + 1]).N ≠ 0; omega)] at h1
  have h1 := of_decide_eq_false h1
  exact h1 hc
theorem row_sz {r : GRow} (h : rowOK r = true) : r.N.T.length ≤ 1048576 ∧ r.Name.T.length ≤ 1048576 := by
  have hr := RR.of h
  have h1 := hr.n.l; have h2 := hr.m.l
  omega
theorem getD_row {xs : List GRow} {k : Nat} (h : k < xs.length) : xs.getD k .zero = xs[k] := getD_in h
theorem mapAtD {xs : List GRow} {k : Nat} (h : k < xs.length) : (xs.map GRow.row)[k]? = some (GRow.row (xs.getD k .zero)) := by rw [getD_row h]; exact mapAt h
theorem down_at {R : List GRow} {k : Int} {i : Nat} (h : i < R.length) (h1 : i < (srtF R k false).length) (h2 : R.length - 1 - i < (srtF R k true).length) : (srtF R k false)[i] = (srtF R k true)[R.length - 1 - i] := by
  have e : (sortS (ltR k) R).length = R.length := sortS_len
  apply Option.some.inj
  rw [← List.getElem?_eq_getElem h1, ← List.getElem?_eq_getElem h2]
  show (sortS (ltR k) R)[i]? = (sortS (ltR k) R).reverse[R.length - 1 - i]?
  rw [List.getElem?_reverse (by omega)]; congr 1; omega
theorem row_val {r : GRow} (h : rowOK r = true) : valueOK r.N = true ∧ valueOK r.Name = true := by
  unfold rowOK at h
  simp only [Bool.and_eq_true] at h
  exact ⟨h.1.1.1.2, h.1.1.2⟩
theorem up_le2 {R : List GRow} {k : Int} {i : Nat} (hk : k = 1) (h0 : 0 < i) (h1 : i - 1 < (srtF R k false).length) (h2 : i < (srtF R k false).length) : ¬ 0 < cmpV ((srtF R k false)[i - 1]).N ((srtF R k false)[i]).N := by
  subst hk
  obtain ⟨j, rfl⟩ : ∃ j, i = j + 1 := ⟨i - 1, by omega⟩
  exact up_le (xs := R) (i := j) h2
theorem up_in {R : List GRow} {k : Int} {i : Nat} (h1 : i < (srtF R k false).length) : (srtF R k false)[i] ∈ R := by
  have : (srtF R k false)[i] ∈ srtF R k false := List.getElem_mem h1
  exact (sortS_mem (lt := ltR k)).1 this
end Go.AM

namespace Go.AM
theorem intD {xs : List Int} {k : Nat} (h : k < xs.length) : (xs.map intRow)[k]? = some (intRow (xs.getD k 0)) := by
  rw [List.getElem?_map, List.getElem?_eq_getElem h]; simp [h]
theorem strD' {xs : List Str} {k : Nat} (h : k < xs.length) : (xs.map strRow)[k]? = some (strRow (xs.getD k [])) := by
  rw [List.getElem?_map, List.getElem?_eq_getElem h]; simp [h]
theorem q_ixs' {C : Cx} {st : St} {sz : Nat} {x i : XA} {k : IntKind} {n : Int} {e s len j : Nat} (hx : evA st.sl x = some (.osl e sz s len)) (hi : evA st.sl i = some (.d (.int k n))) (h0 : 0 ≤ n)
    (hr : n.toNat < len) (hj : s + n.toNat = j) : QStep C st (.iadr sz x i) (.rptr e sz j 0) := by
  subst hj
  exact q_iadr_osl (C := C) hx hi h0 (by omega)
def freshT : Str := [102, 114, 101, 115, 104]
theorem wr_fresh {d : GDisk} {a : Int} (h : DD d 8) (ha : 0 ≤ a ∧ a < (d.Sectors.length : Int)) : writeF d a freshT = (wrD d a freshT, 0) := by
  have h1 := h.cm
  exact writeF_5 (by decide) h.ok.ok (by unfold badW; rw [inR_iff.2 (show 0 ≤ a ∧ a ≤ (d.Sectors.length : Int) - 1 by omega)]; decide) (by omega)
theorem keepsOf_len {code : Str} (hl : code.length ≤ 1048576) : (keepsF (srcOf code)).1.length ≤ 11 := (keepsF_ok (k := 0) ((srcOf_ok hl).mono (by omega))).2
theorem lastW_fresh {d : GDisk} {k : Nat} {t : Str} : lastW (wrD d (k : Int) freshT).Cache (k : Int) t = freshT := by
  unfold wrD; dsimp only; rw [lastW_app, if_pos rfl]
/-- What stands in a sector behind a crash has been written there. -/
def wroteK (C : List GPending) (i : Int) (y s : Str) (k : Nat) : Bool := decide (y = s) || (C.take k).any (fun p => decide (p.At = i) && decide (p.Data = y))
theorem wroteK_succ {C : List GPending} {i : Int} {y s : Str} {k : Nat} (h : k < C.length) : wroteK C i y s (k + 1) = (wroteK C i y s k || (decide (C[k].At = i) && decide (C[k].Data = y))) := by
  unfold wroteK
  rw [take_succ h, List.any_append, List.any_cons, List.any_nil, Bool.or_false, Bool.or_assoc]
theorem crash_wrote {d : GDisk} {keep : List Int} {i : Nat} (h : DOK d) (hi : i < d.Sectors.length) : wroteK d.Cache i ((crashD d keep).Sectors.getD i []) (d.Sectors.getD i []) d.Cache.length = true := by
  unfold wroteK
  rw [List.take_length]
  rcases keptTo_get (S := d.Sectors) (C := d.Cache) (keep := keep) hi (fun p hp => (h.ct p hp).1) d.Cache.length (Nat.le_refl _) with e | ⟨p, hp, e1, e2⟩
  · rw [show (crashD d keep).Sectors.getD i [] = d.Sectors.getD i [] from e, decide_eq_true rfl]; rfl
  · rw [show (crashD d keep).Sectors.getD i [] = p.Data from e2]
    rw [Bool.or_eq_true]; right
    rw [List.any_eq_true]
    exact ⟨p, hp, by rw [decide_eq_true e1, decide_eq_true rfl]; rfl⟩
theorem sync_last {d : GDisk} {i : Nat} (h : DOK d) (hi : i < d.Sectors.length) (ha : (syncD d).2 = true) : (syncD d).1.Sectors.getD i [] = lastW d.Cache i (d.Sectors.getD i []) := by
  cases hh : d.Armed with
  | true => rw [syncD_1 hh] at ha; cases ha
  | false =>
    rw [syncD_2 hh]
    have := syncTo_get (S := d.Sectors) (C := d.Cache) hi (fun p hp => (h.ct p hp).1) d.Cache.length (Nat.le_refl _)
    rw [List.take_length] at this
    exact this
theorem sync_flag {d : GDisk} : (syncD d).2 = !d.Armed := by
  cases h : d.Armed with
  | true => rw [syncD_1 h]; rfl
  | false => rw [syncD_2 h]; rfl
theorem lastW_nil {i : Int} {t : Str} : lastW [] i t = t := rfl
theorem wroteK_0 {C : List GPending} {i : Int} {y s : Str} : wroteK C i y s 0 = decide (y = s) := by unfold wroteK; simp
structure WF3 (d W : GDisk) (q : Nat) : Prop where
  ok : DOK W
  s : W.Sectors = d.Sectors
  c : W.Cache.length = d.Cache.length + 1
  a : W.Armed = d.Armed
  k : W.Keep.length ≤ 11
  l : ∀ t, lastW W.Cache (q : Int) t = freshT
theorem wf3 {d : GDisk} {k : Nat} (h : DD d 8) (hk : k < d.Sectors.length) : WF3 d (wrD d (k : Int) freshT) k :=
  ⟨wrD_ok h.ok ⟨by omega, by omega⟩ (by decide) (by have := h.cm; omega), rfl, by simp [wrD], rfl, h.km, fun _ => lastW_fresh⟩
theorem crash_f {d : GDisk} {keep : List Int} : (crashD d keep).Sectors.length = d.Sectors.length ∧ (crashD d keep).Cache = [] ∧ (crashD d keep).Keep = [] := ⟨keptTo_len, rfl, rfl⟩
theorem sync_f {d : GDisk} : (syncD d).1.Sectors.length = d.Sectors.length ∧ (syncD d).1.Cache = [] ∧ (syncD d).1.Keep.length ≤ d.Keep.length := by
  obtain ⟨a, b, c⟩ := @syncD_len d
  exact ⟨a, List.eq_nil_of_length_eq_zero b, c⟩
theorem dk_cond {W X : GDisk} {AL ar : Bool} {n : Nat} (h : AL = !ar) (hn : 0 < n) : (!decide ((0 : Int) = 0) || !eqb W W || !decide ((0 : Int) = 0) || !decide (freshT = [102, 114, 101, 115, 104]) || !decide ((0 : Int) = 0) || (bif false then AL != ar else AL == ar) || !decide ((0 : Int) = 0) || !eqb X X || !decide ((0 : Int) = 0) || decide ((n : Int) = 0)) = false := by
  rw [eqb_rfl, eqb_rfl, h, decide_eq_false (show ¬ (n : Int) = 0 by omega)]
  cases ar <;> rfl
theorem dk_c3 {AL : Bool} {a b : Str} (h : AL = true → b = a) : (!decide ((0 : Int) = 0) || !decide ((0 : Int) = 0) || !decide ((0 : Int) = 0) || (AL && !decide (a = b))) = false := by
  cases AL with
  | false => rfl
  | true => rw [h rfl]; simp
end Go.AM

