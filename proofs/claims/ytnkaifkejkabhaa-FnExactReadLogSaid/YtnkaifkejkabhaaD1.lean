/- Plain laws about strings, marks, types of the program and what its functions compute; readings of arguments (part 1). -/
import Derived.Test.YtnkaifkejkabhaaD
set_option linter.unusedVariables false
set_option linter.unusedSimpArgs false
/- Plain laws: a record of a log has its number; rows at a place. -/
namespace Go.AM
theorem rec_lsn {r : GLogRecord} (h : recOK r = true) : 1 ≤ r.Lsn ∧ r.Lsn ≤ 60 := by
  have h := (of_decide_eq_true h).1
  exact ⟨h.2.2.1, h.2.2.2⟩
theorem mapAtZ {α : Type} {row : α → List D} {xs : List α} {z : α} {k : Nat} (h : k < xs.length) : (xs.map row)[k]? = some (row (xs.getD k z)) := by
  rw [mapAt h]; simp [List.getD_eq_getElem?_getD, h]
theorem getD_z {α : Type} {xs : List α} {z : α} {k : Nat} (h : k < xs.length) : xs.getD k z = xs[k] := by simp [List.getD_eq_getElem?_getD, h]
end Go.AM

/- Plain laws: a record of a log as a text; the log that a disk holds. -/
namespace Go.AM
def getN (u : Str) (i : Nat) : Nat := (u.getD i 0).toNat
theorem getN_at {u : Str} {i : Nat} (h : i < u.length) : getN u i = u[i].toNat := by unfold getN; simp [List.getD_eq_getElem?_getD, h]
/-! Fields. -/
def loopR : Nat → Str → List Str → List Str × Bool
  | 0, r, l => if r = [] then (l, true) else ([], false)
  | _ + 1, [], _ => ([], false)
  | n + 1, c :: r, l => if r.length < c.toNat then ([], false) else loopR n (r.drop c.toNat) (l ++ [r.take c.toNat])
def l01F : Str → List Str × Bool
  | [] => ([], false)
  | c :: r => if 100 < c.toNat then ([], false) else loopR c.toNat r []
theorem l01_cons {c : UInt8} {r : Str} : l01F (c :: r) = if 100 < c.toNat then ([], false) else loopR c.toNat r [] := rfl
theorem loopR_len : ∀ {n : Nat} {r : Str} {l : List Str}, (loopR n r l).2 = true → (loopR n r l).1.length = l.length + n
  | 0, r, l, h => by
    rw [loopR] at h ⊢; split at h
    · rename_i e; rw [if_pos e]; rfl
    · cases h
  | n + 1, [], l, h => by rw [loopR] at h; cases h
  | n + 1, c :: r, l, h => by
    rw [loopR] at h ⊢
    split at h
    · cases h
    · rename_i e; rw [if_neg e, loopR_len h]; simp; omega
theorem take_fail {r : Rd} {n : Nat} (h : r.fail = true) : (takeF r n).2.fail = true := by
  unfold takeF; split
  · rfl
  · exact h
theorem num_fail {r : Rd} (h : r.fail = true) : (numF r).2.fail = true := take_fail h
theorem fld_fail : ∀ {n : Nat} {r : Rd} {l : List Str}, r.fail = true → (fldL n r l).2.fail = true
  | 0, _, _, h => h
  | n + 1, r, l, h => by rw [fldL]; exact fld_fail (take_fail (num_fail h))
theorem flds_fail {r : Rd} (h : r.fail = true) : (fieldsF r).2.fail = true := fld_fail (num_fail h)
theorem done_fail {r : Rd} (h : r.fail = true) : doneF r = false := by unfold doneF; rw [h]; rfl
theorem num_nil {b : Bool} : numF ⟨[], b⟩ = (0, ⟨[], true⟩) := by
  unfold numF; rw [takeF_1 (by simp)]; rfl
theorem loop_fld : ∀ {n : Nat} {r : Str} {l : List Str}, loopR n r l = if doneF (fldL n ⟨r, false⟩ l).2 = true then ((fldL n ⟨r, false⟩ l).1, true) else ([], false)
  | 0, r, l => by
    rw [loopR, fldL]; unfold doneF
    cases r with
    | nil => simp
    | cons c r => rw [if_neg (by simp), if_neg (by simp; omega)]
  | n + 1, [], l => by
    rw [loopR, fldL, num_nil, if_neg]
    rw [done_fail (fld_fail (take_fail rfl))]; simp
  | n + 1, c :: r, l => by
    rw [loopR, fldL, numF_cons]
    dsimp only
    split
    · rename_i h
      rw [takeF_1 (by simp only; omega), if_neg]
      rw [done_fail (fld_fail rfl)]; simp
    · rename_i h
      rw [takeF_2 (by simp only; omega), loop_fld]
theorem flds_l01 {s : Str} (h : (fieldsF ⟨s, false⟩).1.length = 2 ∨ ((l01F s).2 = true ∧ (l01F s).1.length = 2)) :
    (doneF (fieldsF ⟨s, false⟩).2 = (l01F s).2) ∧ (doneF (fieldsF ⟨s, false⟩).2 = true → (fieldsF ⟨s, false⟩).1 = (l01F s).1) := by
  cases s with
  | nil =>
    have e : doneF (fieldsF ⟨[], false⟩).2 = false := done_fail (fld_fail (by rw [num_nil]))
    rw [e]; exact ⟨rfl, fun h => by cases h⟩
  | cons c r =>
    have hf : fieldsF ⟨c :: r, false⟩ = fldL c.toNat ⟨r, false⟩ [] := by unfold fieldsF; rw [numF_cons]
    rw [hf] at h ⊢
    have hc : ¬ 100 < c.toNat := by
      rcases h with h | h
      · rw [fldL_len.1] at h; simp at h; omega
      · intro hh
        have := h.1
        rw [l01_cons, if_pos hh] at this; cases this
    have e : l01F (c :: r) = loopR c.toNat r [] := by rw [l01_cons, if_neg hc]
    rw [e, loop_fld]
    cases hd : doneF (fldL c.toNat ⟨r, false⟩ []).2 with
    | true => rw [if_pos rfl]; exact ⟨rfl, fun _ => rfl⟩
    | false => rw [if_neg (by simp)]; exact ⟨rfl, fun h => by cases h⟩
theorem l01_len {s : Str} (h : (l01F s).2 = true) : (l01F s).1.length = getN s 0 := by
  cases s with
  | nil => cases h
  | cons c r =>
    rw [l01_cons] at h ⊢
    split at h
    · cases h
    · rename_i e; rw [if_neg e, loopR_len h]; simp [getN]
theorem flds_n {s : Str} (h : 0 < s.length) : (fieldsF ⟨s, false⟩).1.length = getN s 0 := by
  cases s with
  | nil => simp at h
  | cons c r =>
    have hf : fieldsF ⟨c :: r, false⟩ = fldL c.toNat ⟨r, false⟩ [] := by unfold fieldsF; rw [numF_cons]
    rw [hf, fldL_len.1]; simp [getN]
/-! Numbers ahead. -/
def Nn (u : Str) : Nat → Rd
  | 0 => ⟨u, false⟩
  | i + 1 => (numF (Nn u i)).2
theorem Nn_len {u : Str} : ∀ i, (Nn u i).rest.length ≤ u.length
  | 0 => Nat.le_refl _
  | i + 1 => by rw [Nn]; exact Nat.le_trans numF_lt.2 (Nn_len i)
theorem Nn_ok {u : Str} : ∀ {i : Nat}, i ≤ u.length → Nn u i = ⟨u.drop i, false⟩
  | 0, _ => rfl
  | i + 1, h => by
    rw [Nn, Nn_ok (by omega), List.drop_eq_getElem_cons (by omega), numF_cons]
theorem Nn_val {u : Str} {i : Nat} (h : i < u.length) : (numF (Nn u i)).1 = getN u i := by
  rw [Nn_ok (by omega), List.drop_eq_getElem_cons h, numF_cons, getN_at h]
theorem Nn_fail1 {u : Str} : ∀ k, (Nn u (u.length + 1 + k)).fail = true
  | 0 => by
    rw [Nat.add_zero, Nn, Nn_ok (Nat.le_refl _), List.drop_length, num_nil]
  | k + 1 => num_fail (Nn_fail1 k)
theorem Nn_fail {u : Str} {i : Nat} (h : u.length < i) : (Nn u i).fail = true := by
  have := @Nn_fail1 u (i - (u.length + 1))
  rwa [show u.length + 1 + (i - (u.length + 1)) = i from by omega] at this
/-! What the program reads. -/
def fsI (u : Str) : List Str × Rd := fieldsF (Nn u 9)
abbrev vN (u : Str) (i : Nat) : Int := (numF (Nn u i)).1
def rec0 (u : Str) : GLogRecord := ⟨vN u 1, vN u 2, vN u 3, vN u 4, vN u 5, vN u 6, vN u 7, vN u 8, [], []⟩
def recI (u : Str) : GLogRecord := ⟨vN u 1, vN u 2, vN u 3, vN u 4, vN u 5, vN u 6, vN u 7, vN u 8, (fsI u).1.getD 0 [], (fsI u).1.getD 1 []⟩
def badI (u : Str) : Bool := (!doneF (fsI u).2 || !decide (vN u 0 = 108)) || !decide (((fsI u).1.length : Int) = 2)
def recF (t : Str) : GLogRecord × Int := if 65536 < (t.length : Int) then (.zero, 2) else if (unsealF t).2 = false then (.zero, 8) else if badI (unsealF t).1 = true then (.zero, 3) else if recOK (recI (unsealF t).1) = false then (.zero, 3) else (recI (unsealF t).1, 0)
section
variable {t : Str}
theorem recF_1 (h : 65536 < (t.length : Int)) : recF t = (.zero, 2) := by unfold recF; rw [if_pos h]
theorem recF_2 (h : ¬ 65536 < (t.length : Int)) (h1 : (unsealF t).2 = false) : recF t = (.zero, 8) := by unfold recF; rw [if_neg h, if_pos h1]
theorem recF_3 (h : ¬ 65536 < (t.length : Int)) (h1 : (unsealF t).2 = true) (h2 : badI (unsealF t).1 = true) : recF t = (.zero, 3) := by unfold recF; rw [if_neg h, if_neg (by rw [h1]; simp), if_pos h2]
theorem recF_4 (h : ¬ 65536 < (t.length : Int)) (h1 : (unsealF t).2 = true) (h2 : badI (unsealF t).1 = false) (h3 : recOK (recI (unsealF t).1) = false) : recF t = (.zero, 3) := by unfold recF; rw [if_neg h, if_neg (by rw [h1]; simp), if_neg (by rw [h2]; simp), if_pos h3]
theorem recF_5 (h : ¬ 65536 < (t.length : Int)) (h1 : (unsealF t).2 = true) (h2 : badI (unsealF t).1 = false) (h3 : recOK (recI (unsealF t).1) = true) : recF t = (recI (unsealF t).1, 0) := by unfold recF; rw [if_neg h, if_neg (by rw [h1]; simp), if_neg (by rw [h2]; simp), if_neg (by rw [h3]; simp)]
end
/-! What the reference reads. -/
def recS (u : Str) : GLogRecord := ⟨getN u 1, getN u 2, getN u 3, getN u 4, getN u 5, getN u 6, getN u 7, getN u 8, (l01F (u.drop 9)).1.getD 0 [], (l01F (u.drop 9)).1.getD 1 []⟩
def badS (t : Str) : Bool := (!(unsealF t).2 || decide (((unsealF t).1.length : Int) < 10)) || !decide ((getN (unsealF t).1 0 : Int) = 108)
def badL (u : Str) : Bool := !(l01F (u.drop 9)).2 || !decide (((l01F (u.drop 9)).1.length : Int) = 2)
def l04F (t : Str) : GLogRecord × Bool := if badS t = true then (.zero, false) else if badL (unsealF t).1 = true then (.zero, false) else (recS (unsealF t).1, recOK (recS (unsealF t).1))
theorem l04F_1 {t : Str} (h : badS t = true) : l04F t = (.zero, false) := by unfold l04F; rw [if_pos h]
theorem l04F_2 {t : Str} (h : badS t = false) (h1 : badL (unsealF t).1 = true) : l04F t = (.zero, false) := by unfold l04F; rw [if_neg (by rw [h]; simp), if_pos h1]
theorem l04F_3 {t : Str} (h : badS t = false) (h1 : badL (unsealF t).1 = false) : l04F t = (recS (unsealF t).1, recOK (recS (unsealF t).1)) := by unfold l04F; rw [if_neg (by rw [h]; simp), if_neg (by rw [h1]; simp)]
theorem l04_true {t : Str} (h : (l04F t).2 = true) : badS t = false ∧ badL (unsealF t).1 = false ∧ (l04F t).1 = recS (unsealF t).1 ∧ recOK (recS (unsealF t).1) = true := by
  unfold l04F at h ⊢
  split at h
  · cases h
  · rename_i h1
    rw [if_neg h1]
    split at h
    · cases h
    · rename_i h2
      rw [if_neg h2]
      exact ⟨by simpa using h1, by simpa using h2, rfl, h⟩
theorem rec_eq {u : Str} (h : 10 ≤ u.length) (hf : (fsI u).1 = (l01F (u.drop 9)).1) : recI u = recS u := by
  unfold recI recS vN
  rw [hf, Nn_val (by omega), Nn_val (by omega), Nn_val (by omega), Nn_val (by omega), Nn_val (by omega), Nn_val (by omega), Nn_val (by omega), Nn_val (by omega)]
theorem rec_same {t : Str} (hl : t.length ≤ 65536) : (recF t).2 = 0 ↔ (l04F t).2 = true := by
  have hnl : ¬ 65536 < (t.length : Int) := by omega
  cases hu : (unsealF t).2 with
  | false =>
    rw [recF_2 hnl hu, l04F_1 (by unfold badS; rw [hu]; rfl)]; simp
  | true =>
    by_cases h10 : (unsealF t).1.length < 10
    · rw [l04F_1 (by unfold badS; rw [hu, decide_eq_true (by omega)]; rfl)]
      have hb : badI (unsealF t).1 = true := by
        have hd : doneF (fsI (unsealF t).1).2 = false := by
          unfold fsI
          by_cases h9 : (unsealF t).1.length < 9
          · exact done_fail (flds_fail (Nn_fail h9))
          · have e9 : (unsealF t).1.length = 9 := by omega
            rw [Nn_ok (by omega), List.drop_of_length_le (by omega)]
            refine done_fail (fld_fail ?_); rw [num_nil]
        unfold badI; rw [hd]; rfl
      rw [recF_3 hnl hu hb]; simp
    · have hv := @Nn_val (unsealF t).1 0 (by omega)
      have hfs : fsI (unsealF t).1 = fieldsF ⟨(unsealF t).1.drop 9, false⟩ := by unfold fsI; rw [Nn_ok (by omega)]
      have hn : (fsI (unsealF t).1).1.length = getN ((unsealF t).1.drop 9) 0 := by rw [hfs]; exact flds_n (by rw [List.length_drop]; omega)
      by_cases h0 : getN (unsealF t).1 0 = 108
      · have hS : badS t = false := by unfold badS; rw [hu, decide_eq_false (show ¬ ((unsealF t).1.length : Int) < 10 by omega), h0]; rfl
        have hV : vN (unsealF t).1 0 = 108 := by unfold vN; rw [hv, h0]; rfl
        cases hL : badL (unsealF t).1 with
        | true =>
          rw [l04F_2 hS hL]
          have hb : badI (unsealF t).1 = true := by
            unfold badI
            by_cases h2 : ((fsI (unsealF t).1).1.length : Int) = 2
            · have h2' : (fieldsF ⟨(unsealF t).1.drop 9, false⟩).1.length = 2 := by rw [← hfs]; omega
              obtain ⟨q1, q2⟩ := flds_l01 (.inl h2')
              unfold badL at hL
              rw [Bool.or_eq_true, Bool.not_eq_true', Bool.not_eq_true', decide_eq_false_iff_not] at hL
              have hd : doneF (fsI (unsealF t).1).2 = false := by
                rw [hfs]
                cases hdd : doneF (fieldsF ⟨(unsealF t).1.drop 9, false⟩).2 with
                | false => rfl
                | true =>
                  exfalso
                  have q3 := q2 hdd
                  rw [hdd] at q1
                  rcases hL with h | h
                  · rw [← q1] at h; cases h
                  · rw [← q3, h2'] at h; exact h rfl
              rw [hd]; rfl
            · rw [decide_eq_false h2]; simp
          rw [recF_3 hnl hu hb]; simp
        | false =>
          unfold badL at hL
          rw [Bool.or_eq_false_iff, Bool.not_eq_false', Bool.not_eq_false', decide_eq_true_eq] at hL
          obtain ⟨q1, q2⟩ := flds_l01 (s := (unsealF t).1.drop 9) (.inr ⟨hL.1, by omega⟩)
          rw [hL.1] at q1
          have q3 := q2 q1
          rw [← hfs] at q1 q3
          have hb : badI (unsealF t).1 = false := by unfold badI; rw [q1, hV, q3, hL.2]; rfl
          have hL' : badL (unsealF t).1 = false := by unfold badL; rw [hL.1, hL.2]; rfl
          rw [l04F_3 hS hL']
          have he := rec_eq (by omega) q3
          cases hr : recOK (recS (unsealF t).1) with
          | true => rw [recF_5 hnl hu hb (by rw [he]; exact hr)]; simp
          | false => rw [recF_4 hnl hu hb (by rw [he]; exact hr)]; simp
      · rw [l04F_1 (by unfold badS; rw [decide_eq_false (show ¬ (getN (unsealF t).1 0 : Int) = 108 by omega)]; simp)]
        have hb : badI (unsealF t).1 = true := by
          unfold badI vN; rw [hv, decide_eq_false (show ¬ (getN (unsealF t).1 0 : Int) = 108 by omega)]; simp
        rw [recF_3 hnl hu hb]; simp
theorem rec_got {t : Str} (hl : t.length ≤ 65536) (h : (l04F t).2 = true) : recF t = ((l04F t).1, 0) := by
  have hnl : ¬ 65536 < (t.length : Int) := by omega
  have h0 := (rec_same hl).2 h
  obtain ⟨h1, h2, h3, h4⟩ := l04_true h
  have hu : (unsealF t).2 = true := by
    unfold badS at h1; rw [Bool.or_eq_false_iff, Bool.or_eq_false_iff, Bool.not_eq_false'] at h1; exact h1.1.1
  have h10 : 10 ≤ (unsealF t).1.length := by
    unfold badS at h1; rw [Bool.or_eq_false_iff, Bool.or_eq_false_iff, decide_eq_false_iff_not] at h1; have := h1.1.2; omega
  have hfs : fsI (unsealF t).1 = fieldsF ⟨(unsealF t).1.drop 9, false⟩ := by unfold fsI; rw [Nn_ok (by omega)]
  unfold badL at h2
  rw [Bool.or_eq_false_iff, Bool.not_eq_false', Bool.not_eq_false', decide_eq_true_eq] at h2
  obtain ⟨q1, q2⟩ := flds_l01 (s := (unsealF t).1.drop 9) (.inr ⟨h2.1, by omega⟩)
  rw [h2.1] at q1
  have q3 := q2 q1
  rw [← hfs] at q1 q3
  have he := rec_eq h10 q3
  have e0 : (getN (unsealF t).1 0 : Int) = 108 := by
    unfold badS at h1; rw [Bool.or_eq_false_iff, Bool.not_eq_false', decide_eq_true_eq] at h1; exact h1.2
  have hb : badI (unsealF t).1 = false := by
    unfold badI vN
    rw [q1, Nn_val (by omega), e0, q3, h2.2]; rfl
  rw [recF_5 hnl hu hb (by rw [he]; exact h4), h3, he]
/-! The log that a disk holds. -/
def txtD (d : GDisk) (i : Nat) : Str := lastW d.Cache i (d.Sectors.getD i [])
def takesR (top : Int) (k : Nat) (low : Int) (t : Str) : Bool := (l04F t).2 && (decide ((l04F t).1.Lsn = ((k + 1 : Nat) : Int)) && inR (l04F t).1.Epoch low top)
def logR (d : GDisk) (top : Int) : Nat → Nat → Int → List GLogRecord
  | 0, _, _ => []
  | f + 1, k, low => if takesR top k low (txtD d (9 + k)) = true then (l04F (txtD d (9 + k))).1 :: logR d top f (k + 1) (l04F (txtD d (9 + k))).1.Epoch else []
def logF (d : GDisk) (top : Int) : List GLogRecord := logR d top (d.Sectors.length - 9) 0 1
theorem logR_t {d : GDisk} {top low : Int} {f k : Nat} (h : takesR top k low (txtD d (9 + k)) = true) : logR d top (f + 1) k low = (l04F (txtD d (9 + k))).1 :: logR d top f (k + 1) (l04F (txtD d (9 + k))).1.Epoch := by rw [logR, if_pos h]
theorem logR_f {d : GDisk} {top low : Int} {f k : Nat} (h : takesR top k low (txtD d (9 + k)) = false) : logR d top f k low = [] := by
  cases f with
  | zero => rfl
  | succ f => rw [logR, if_neg (by rw [h]; simp)]
theorem takes_ok {top low : Int} {k : Nat} {t : Str} (h : takesR top k low t = true) : (l04F t).2 = true ∧ recOK (l04F t).1 = true ∧ (l04F t).1.Lsn = ((k + 1 : Nat) : Int) ∧ k < 60 ∧ low ≤ (l04F t).1.Epoch ∧ (l04F t).1.Epoch ≤ top := by
  unfold takesR at h
  rw [Bool.and_eq_true, Bool.and_eq_true, decide_eq_true_eq, inR_iff] at h
  obtain ⟨h1, h2, h3⟩ := h
  obtain ⟨_, _, q3, q4⟩ := l04_true h1
  rw [← q3] at q4
  have := rec_lsn q4
  exact ⟨h1, q4, h2, by omega, h3⟩
theorem rec_epoch {r : GLogRecord} (h : recOK r = true) : 1 ≤ r.Epoch ∧ r.Epoch ≤ 60 := by
  have h := (of_decide_eq_true h).1
  exact ⟨h.1, h.2.1⟩
theorem logR_60 {d : GDisk} {top low : Int} {f : Nat} : logR d top f 60 low = [] := by
  refine logR_f ?_
  cases h : takesR top 60 low (txtD d (9 + 60)) with
  | false => rfl
  | true => have := takes_ok h; omega
theorem logR_len {d : GDisk} {top : Int} : ∀ {f k : Nat} {low : Int}, k ≤ 60 → (logR d top f k low).length ≤ 60 - k
  | 0, k, low, h => by rw [logR]; simp
  | f + 1, k, low, h => by
    rw [logR]; split
    · rename_i h1
      have h2 := takes_ok h1
      rw [List.length_cons]
      have := logR_len (d := d) (top := top) (f := f) (k := k + 1) (low := (l04F (txtD d (9 + k))).1.Epoch) (by omega)
      omega
    · simp
def readF (d : GDisk) (top : Int) : List GLogRecord × Int := if diskOK d = false then ([], 1) else if inR top 0 60 = false then ([], 4) else (logF d top, 0)
theorem readF_1 {d : GDisk} {top : Int} (h : diskOK d = false) : readF d top = ([], 1) := by unfold readF; rw [if_pos h]
theorem readF_2 {d : GDisk} {top : Int} (h : diskOK d = true) (h1 : inR top 0 60 = false) : readF d top = ([], 4) := by unfold readF; rw [if_neg (by rw [h]; simp), if_pos h1]
theorem readF_3 {d : GDisk} {top : Int} (h : diskOK d = true) (h1 : inR top 0 60 = true) : readF d top = (logF d top, 0) := by unfold readF; rw [if_neg (by rw [h]; simp), if_neg (by rw [h1]; simp)]
theorem readF_len {d : GDisk} {top : Int} : (readF d top).1.length ≤ 60 := by
  unfold readF
  split
  · simp
  · split
    · simp
    · exact logR_len (Nat.zero_le _)
theorem lastW_len {C : List GPending} {i : Int} {m : Nat} (hc : ∀ p ∈ C, p.Data.length ≤ m) : ∀ {t : Str}, t.length ≤ m → (lastW C i t).length ≤ m := by
  unfold lastW
  induction C with
  | nil => intro t h; exact h
  | cons p C ih =>
    intro t h
    rw [List.foldl_cons]
    refine ih (fun q hq => hc q (List.mem_cons_of_mem _ hq)) ?_
    split
    · exact hc p (List.mem_cons_self ..)
    · exact h
theorem diskOK_txt {d : GDisk} (h : diskOK d = true) (i : Nat) : (txtD d i).length ≤ 160 := by
  unfold diskOK at h
  rw [Bool.and_eq_true, Bool.and_eq_true, Bool.not_eq_true', Bool.not_eq_true', Bool.not_eq_true'] at h
  obtain ⟨_, h2, h3⟩ := h
  rw [List.any_eq_false] at h2 h3
  refine lastW_len (fun p hp => ?_) ?_
  · have := h3 p hp
    unfold badAt at this
    simp at this; omega
  · rcases Nat.lt_or_ge i d.Sectors.length with hi | hi
    · have := h2 d.Sectors[i] (List.getElem_mem hi)
      unfold long160 at this
      simp at this
      simp [List.getD_eq_getElem?_getD, hi]; omega
    · simp [List.getD_eq_getElem?_getD, hi]

theorem slcT_take {l : Str} {a : Int} {n : Nat} (h : a.toNat = n) : AV.d (.str ((l.drop (0 : Int).toNat).take (a.toNat - (0 : Int).toNat))) = .d (.str (l.take n)) := by subst h; simp
theorem slcT_drop {l : Str} {a : Int} {n : Nat} (h : a.toNat = n) : AV.d (.str ((l.drop a.toNat).take ((l.length : Int).toNat - a.toNat))) = .d (.str (l.drop n)) := by
  subst h; rw [List.take_of_length_le (by simp)]
theorem slcT_mid {l : Str} {a b : Int} {n m : Nat} (h : a.toNat = n) (h2 : b.toNat - n = m) : AV.d (.str ((l.drop a.toNat).take (b.toNat - a.toNat))) = .d (.str ((l.drop n).take m)) := by subst h; subst h2; rfl
theorem l01_bad {s : Str} (h : s = [] ∨ (100 : Int) < (getN s 0 : Nat)) : l01F s = ([], false) := by
  cases s with
  | nil => rfl
  | cons c r =>
    rw [l01_cons, if_pos]
    rcases h with h | h
    · cases h
    · have : getN (c :: r) 0 = c.toNat := rfl
      omega
theorem l01_go {s : Str} (h : ¬ s = [] ∧ ¬ (100 : Int) < (getN s 0 : Nat)) : loopR (getN s 0) (s.drop 1) [] = l01F s := by
  cases s with
  | nil => exact absurd rfl h.1
  | cons c r =>
    have e : getN (c :: r) 0 = c.toNat := rfl
    rw [l01_cons, if_neg (by omega), e]; rfl
theorem getN_lt {s : Str} {i : Nat} : getN s i < 256 := (s.getD i 0).toNat_lt
theorem loopR_bad {s : Str} {pos n : Nat} {l : List Str} (h : (s.length : Int) ≤ (pos : Int) ∨ (s.length : Int) < ((pos + 1 + getN s pos : Nat) : Int)) : loopR (n + 1) (s.drop pos) l = ([], false) := by
  rcases Nat.lt_or_ge pos s.length with hp | hp
  · rw [List.drop_eq_getElem_cons hp, loopR, if_pos]
    rw [List.length_drop, ← getN_at hp]; omega
  · rw [List.drop_of_length_le hp, loopR]
theorem loopR_go {s : Str} {pos n : Nat} {l : List Str} (hp : pos < s.length) (h : ¬ (s.length : Int) < ((pos + 1 + getN s pos : Nat) : Int)) : loopR (n + 1) (s.drop pos) l = loopR n (s.drop (pos + 1 + getN s pos)) (l ++ [(s.drop (pos + 1)).take (getN s pos)]) := by
  rw [List.drop_eq_getElem_cons hp, loopR, ← getN_at hp, if_neg (by rw [List.length_drop]; omega), List.drop_drop]
theorem loopR_0f {s : Str} {pos : Nat} {l : List Str} (hp : pos < s.length) : loopR 0 (s.drop pos) l = ([], false) := by
  rw [loopR, if_neg]
  intro h
  have := congrArg List.length h
  rw [List.length_drop] at this; simp at this; omega
theorem loopR_0t {s : Str} {pos : Nat} {l : List Str} (hp : s.length ≤ pos) : loopR 0 (s.drop pos) l = (l, true) := by
  rw [List.drop_of_length_le hp, loopR, if_pos rfl]
theorem loopR_mem : ∀ {n : Nat} {r : Str} {l : List Str} {m : Nat}, r.length ≤ m → (∀ x ∈ l, x.length ≤ m) → ∀ x ∈ (loopR n r l).1, x.length ≤ m
  | 0, r, l, m, _, hl => by
    rw [loopR]; split
    · exact hl
    · intro x hx; cases hx
  | n + 1, [], l, m, _, _ => by rw [loopR]; intro x hx; cases hx
  | n + 1, c :: r, l, m, hr, hl => by
    rw [loopR]; simp only [List.length_cons] at hr
    split
    · intro x hx; cases hx
    · refine loopR_mem (by rw [List.length_drop]; omega) (fun x hx => ?_)
      rcases List.mem_append.1 hx with q | q
      · exact hl x q
      · rw [List.mem_singleton.1 q, List.length_take]; omega
theorem l01_mem {s : Str} : ∀ x ∈ (l01F s).1, x.length ≤ s.length := by
  cases s with
  | nil => intro x hx; cases hx
  | cons c r =>
    rw [l01_cons]; split
    · intro x hx; cases hx
    · exact loopR_mem (by simp) (fun x hx => by cases hx)
theorem getD_le {l : List Str} {m : Nat} (h : ∀ x ∈ l, x.length ≤ m) (k : Nat) : (l.getD k []).length ≤ m := by
  rw [List.getD_eq_getElem?_getD]
  rcases Nat.lt_or_ge k l.length with hk | hk
  · simp only [List.getElem?_eq_getElem hk, Option.getD_some]; exact h _ (List.getElem_mem hk)
  · simp [List.getElem?_eq_none hk]
theorem recS_After {u : Str} {m : Nat} (h : u.length ≤ m) : (recS u).After.length ≤ m := by
  refine getD_le (fun x hx => ?_) 1
  have := l01_mem x hx
  rw [List.length_drop] at this; omega
theorem fld_mem : ∀ {n : Nat} {r : Rd} {l : List Str} {m : Nat}, r.rest.length ≤ m → 255 ≤ m → (∀ x ∈ l, x.length ≤ m) → ∀ x ∈ (fldL n r l).1, x.length ≤ m
  | 0, _, _, _, _, _, hl => hl
  | n + 1, r, l, m, hr, hm, hl => by
    rw [fldL]
    have h1 := @numF_lt r
    have h2 := @takeF_len (numF r).2 (numF r).1
    refine fld_mem (by omega) hm (fun x hx => ?_)
    rcases List.mem_append.1 hx with q | q
    · exact hl x q
    · rw [List.mem_singleton.1 q, h2.1]; omega
theorem fsI_mem {u : Str} {m : Nat} (h : u.length ≤ m) (hm : 255 ≤ m) : ∀ x ∈ (fsI u).1, x.length ≤ m := by
  have h1 := @Nn_len u 9
  have h2 := @numF_lt (Nn u 9)
  have e : (fsI u).1 = (fldL (numF (Nn u 9)).1 (numF (Nn u 9)).2 []).1 := by unfold fsI fieldsF; rfl
  rw [e]
  generalize Nn u 9 = r at h1 h2 ⊢
  exact fld_mem (by omega) hm (fun x hx => by cases hx)
theorem recI_a {u : Str} : (recI u).After = (fsI u).1.getD 1 [] := by simp only [recI]
theorem recI_After {u : Str} {m : Nat} (h : u.length ≤ m) (hm : 255 ≤ m) : (recI u).After.length ≤ m := by
  rw [recI_a]; exact getD_le (fsI_mem h hm) 1
theorem takesR_t {t : Str} {top low : Int} {k : Nat} (hl : t.length ≤ 65536) (h : ((recF t).2 = 0 ∧ (recF t).1.Lsn = ((k + 1 : Nat) : Int)) ∧ inR (recF t).1.Epoch low top = true) : takesR top k low t = true ∧ (recF t).1 = (l04F t).1 := by
  have h1 := (rec_same hl).1 h.1.1
  have h2 := rec_got hl h1
  rw [h2] at h
  refine ⟨?_, by rw [h2]⟩
  unfold takesR
  rw [h1, decide_eq_true h.1.2, h.2]; rfl
theorem takesR_f {t : Str} {top low : Int} {k : Nat} (hl : t.length ≤ 65536) (h : (¬ (recF t).2 = 0 ∨ ¬ (recF t).1.Lsn = ((k + 1 : Nat) : Int)) ∨ inR (recF t).1.Epoch low top = false) : takesR top k low t = false := by
  cases e : takesR top k low t with
  | false => rfl
  | true =>
    obtain ⟨h1, h2, h3, h4, h5, h6⟩ := takes_ok e
    have h7 := rec_got hl h1
    rw [h7] at h
    rcases h with (h | h) | h
    · exact absurd rfl h
    · exact absurd h3 h
    · rw [inR_iff.2 ⟨h5, h6⟩] at h; cases h
theorem takesS_t {t : Str} {top low E : Int} {k : Nat} (h0 : k = 0 → low = 1) (h1 : 0 < k → E = low) (h : (((l04F t).2 = true ∧ (l04F t).1.Lsn = ((k + 1 : Nat) : Int)) ∧ ¬ top < (l04F t).1.Epoch) ∧ (¬ (1 : Int) < ((k + 1 : Nat) : Int) ∨ ¬ (l04F t).1.Epoch < E)) : takesR top k low t = true := by
  obtain ⟨_, _, q3, q4⟩ := l04_true h.1.1.1
  rw [← q3] at q4
  have h2 := rec_epoch q4
  unfold takesR
  rw [h.1.1.1, decide_eq_true h.1.1.2, inR_iff.2]
  · rfl
  · have h3 := h.1.2
    rcases Nat.eq_zero_or_pos k with hk | hk
    · have := h0 hk; omega
    · have h4 := h1 hk
      rcases h.2 with q | q
      · omega
      · omega
theorem takesS_f {t : Str} {top low E : Int} {k : Nat} (h1 : 0 < k → E = low) (h : (((l04F t).2 = false ∨ ¬ (l04F t).1.Lsn = ((k + 1 : Nat) : Int)) ∨ top < (l04F t).1.Epoch) ∨ ((1 : Int) < ((k + 1 : Nat) : Int) ∧ (l04F t).1.Epoch < E)) : takesR top k low t = false := by
  cases e : takesR top k low t with
  | false => rfl
  | true =>
    obtain ⟨q1, q2, q3, q4, q5, q6⟩ := takes_ok e
    rcases h with ((h | h) | h) | h
    · rw [q1] at h; cases h
    · exact absurd q3 h
    · omega
    · have := h1 (by omega); omega
theorem app_one {α : Type} {row : α → List D} {xs : List α} {y : α} : (xs.map row).take xs.length ++ [row y] = (xs ++ [y]).map row := by
  rw [List.take_of_length_le (by simp), List.map_append]; rfl
theorem Nn_next {u : Str} {i v : Nat} {r r' : Rd} (h : Nn u i = r) (e : numF r = (v, r')) (hl : r.rest.length ≤ 1048576) : Nn u (i + 1) = r' ∧ vN u i = (v : Int) ∧ r'.rest.length ≤ 1048576 := by
  subst h
  exact ⟨by rw [Nn, e], by unfold vN; rw [e], by have := (@numF_lt (Nn u i)).2; rw [e] at this; exact Nat.le_trans this hl⟩
theorem badI_of {u : Str} {v : Nat} {F : List Str} {r9 r10 : Rd} (h : Nn u 9 = r9) (e : fieldsF r9 = (F, r10)) (h0 : vN u 0 = (v : Int)) : badI u = ((!doneF r10 || !decide ((v : Int) = 108)) || !decide ((F.length : Int) = 2)) := by
  unfold badI fsI; rw [h, e, h0]
theorem recI_of {u : Str} {v1 v2 v3 v4 v5 v6 v7 v8 : Nat} {F : List Str} {r9 r10 : Rd} (h : Nn u 9 = r9) (e : fieldsF r9 = (F, r10)) (h1 : vN u 1 = (v1 : Int)) (h2 : vN u 2 = (v2 : Int)) (h3 : vN u 3 = (v3 : Int)) (h4 : vN u 4 = (v4 : Int)) (h5 : vN u 5 = (v5 : Int)) (h6 : vN u 6 = (v6 : Int)) (h7 : vN u 7 = (v7 : Int)) (h8 : vN u 8 = (v8 : Int)) :
    recI u = ⟨v1, v2, v3, v4, v5, v6, v7, v8, F.getD 0 [], F.getD 1 []⟩ := by
  unfold recI fsI; rw [h, e, h1, h2, h3, h4, h5, h6, h7, h8]
end Go.AM

