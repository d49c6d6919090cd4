/- Plain laws about strings, marks, types of the program and what its functions compute; readings of arguments (part 1). -/
import Derived.Test.YtgfabnojbjnepaaD
set_option linter.unusedVariables false
set_option linter.unusedSimpArgs false
/- Plain laws: records of a log, lists of a check. -/
namespace Go.AM
/-! The list of a check, as the program reads it. -/
def chkL (high lsn : Int) : Nat → Rd → Bool → Int → Bool × Rd
  | 0, r, ok, _ => (ok, r)
  | n + 1, r, ok, b => chkL high lsn n (numF (numF r).2).2 ((ok && inR (numF r).1 (b + 1) high) && inR (numF (numF r).2).1 1 (lsn - 1)) (numF r).1
def chkF (most low high lsn : Int) (r : Rd) : Bool × Rd :=
  let p := chkL high lsn (numF r).1 (numF r).2 (decide (((numF r).1 : Int) ≤ most)) (low - 1)
  (p.1 && !p.2.fail, p.2)
def isCheckF (t : Str) (lsn : Int) : Bool :=
  ((chkF 8 0 7 lsn ⟨t, false⟩).1 && (chkF 10 1 60 lsn (chkF 8 0 7 lsn ⟨t, false⟩).2).1) && doneF (chkF 10 1 60 lsn (chkF 8 0 7 lsn ⟨t, false⟩).2).2
theorem chkL_len {high lsn : Int} : ∀ {n : Nat} {r : Rd} {ok : Bool} {b : Int}, (chkL high lsn n r ok b).2.rest.length ≤ r.rest.length
  | 0, _, _, _ => Nat.le_refl _
  | n + 1, r, ok, b => by
    rw [chkL]
    exact Nat.le_trans chkL_len (Nat.le_trans numF_lt.2 numF_lt.2)
theorem chkF_len {most low high lsn : Int} {r : Rd} : (chkF most low high lsn r).2.rest.length ≤ r.rest.length := Nat.le_trans chkL_len numF_lt.2
/-! .. as pairs. -/
abbrev Pr := Nat × Nat
def prs : Nat → Str → Option (List Pr × Str)
  | 0, s => some ([], s)
  | n + 1, a :: b :: s => (prs n s).map (fun p => ((a.toNat, b.toNat) :: p.1, p.2))
  | _ + 1, _ => none
def readC (t : Str) : Option (List Pr × List Pr) :=
  match t with
  | [] => none
  | n :: s => match prs n.toNat s with
    | none => none
    | some (_, []) => none
    | some (l1, m :: s2) => match prs m.toNat s2 with
      | some (l2, []) => some (l1, l2)
      | _ => none
/-- They rise, and stand between. -/
def okL (high lsn : Int) : List Pr → Int → Bool
  | [], _ => true
  | p :: l, b => (inR p.1 (b + 1) high && inR p.2 1 (lsn - 1)) && okL high lsn l p.1
theorem numF_fail {s : Str} : numF ⟨s, true⟩ = (((s.take 1).getD 0 0).toNat, ⟨s.drop 1, true⟩) := by
  cases s with
  | nil => rfl
  | cons c s => unfold numF; rw [takeF_2 (by simp; omega)]
theorem numF_nil : numF ⟨[], false⟩ = (0, ⟨[], true⟩) := rfl
theorem chkL_fail {high lsn : Int} : ∀ {n : Nat} {r : Rd} {ok : Bool} {b : Int}, r.fail = true → (chkL high lsn n r ok b).2.fail = true
  | 0, _, _, _, h => h
  | n + 1, r, ok, b, h => by
    have hf : ∀ r : Rd, r.fail = true → (numF r).2.fail = true := fun r hr => by
      obtain ⟨s, f⟩ := r
      simp only at hr; subst hr; rw [numF_fail]
    rw [chkL]
    exact chkL_fail (hf _ (hf _ h))
theorem chkL_prs {high lsn : Int} : ∀ {n : Nat} {s : Str} {ok : Bool} {b : Int}, match prs n s with
    | none => (chkL high lsn n ⟨s, false⟩ ok b).2.fail = true
    | some (l, s') => chkL high lsn n ⟨s, false⟩ ok b = (ok && okL high lsn l b, ⟨s', false⟩) ∧ l.length = n
  | 0, s, ok, b => by simp [prs, chkL, okL]
  | n + 1, [], ok, b => by
    simp only [prs]
    rw [chkL, numF_nil]
    exact chkL_fail (by rw [numF_fail])
  | n + 1, [c], ok, b => by
    simp only [prs]
    rw [chkL, numF_cons, numF_nil]
    exact chkL_fail rfl
  | n + 1, c :: d :: s, ok, b => by
    simp only [prs]
    have ih := @chkL_prs high lsn n s ((ok && inR c.toNat (b + 1) high) && inR d.toNat 1 (lsn - 1)) c.toNat
    rw [chkL, numF_cons, numF_cons]
    cases hp : prs n s with
    | none => rw [hp] at ih; exact ih
    | some p =>
      obtain ⟨l, s'⟩ := p
      rw [hp] at ih
      simp only [Option.map_some] at ih ⊢
      refine ⟨?_, by rw [List.length_cons, ih.2]⟩
      rw [ih.1, okL]
      simp only [Bool.and_assoc]
def checkOK (t : Str) (lsn : Int) : Bool := match readC t with
  | none => false
  | some (l1, l2) => ((decide (l1.length ≤ 8) && okL 7 lsn l1 (-1)) && (decide (l2.length ≤ 10) && okL 60 lsn l2 0))
theorem isCheck_ok {t : Str} {lsn : Int} : isCheckF t lsn = checkOK t lsn := by
  have chkF_fail : ∀ {a b c d : Int} {r : Rd}, r.fail = true → (chkF a b c d r).1 = false := fun {a b c d r} h => by
    obtain ⟨s, f⟩ := r
    simp only at h; subst h
    unfold chkF
    simp only
    rw [chkL_fail (by rw [numF_fail]), Bool.not_true, Bool.and_false]
  have chkF_none : ∀ {a b c d : Int} {n : UInt8} {s : Str}, prs n.toNat s = none → (chkF a b c d ⟨n :: s, false⟩).1 = false := fun {a b c d n s} h => by
    unfold chkF
    simp only [numF_cons]
    have := @chkL_prs c d n.toNat s (decide ((n.toNat : Int) ≤ a)) (b - 1)
    rw [h] at this
    rw [this, Bool.not_true, Bool.and_false]
  have chkF_some : ∀ {a b c d : Int} {n : UInt8} {s s' : Str} {l : List Pr}, prs n.toNat s = some (l, s') → chkF a b c d ⟨n :: s, false⟩ = (decide ((l.length : Int) ≤ a) && okL c d l (b - 1), ⟨s', false⟩) := fun {a b c d n s s' l} h => by
    unfold chkF
    simp only [numF_cons]
    have := @chkL_prs c d n.toNat s (decide ((n.toNat : Int) ≤ a)) (b - 1)
    rw [h] at this
    rw [this.1, this.2]; simp
  have chkF_nil : ∀ {a b c d : Int}, (chkF a b c d ⟨[], false⟩).1 = false := fun {a b c d} => by
    unfold chkF
    simp only [numF_nil]
    rw [chkL_fail rfl, Bool.not_true, Bool.and_false]
  unfold isCheckF checkOK readC
  cases t with
  | nil => rw [chkF_nil, Bool.false_and, Bool.false_and]
  | cons n s =>
    simp only
    cases hp : prs n.toNat s with
    | none => rw [chkF_none hp, Bool.false_and, Bool.false_and]
    | some p =>
      obtain ⟨l1, s1⟩ := p
      rw [chkF_some hp]
      cases s1 with
      | nil => simp only; rw [chkF_nil, Bool.and_false, Bool.false_and]
      | cons m s2 =>
        simp only
        cases hq : prs m.toNat s2 with
        | none => rw [chkF_none hq, Bool.and_false, Bool.false_and]
        | some q =>
          obtain ⟨l2, s3⟩ := q
          rw [chkF_some hq]
          cases s3 with
          | nil =>
            simp only [doneF]
            rw [show decide ((l1.length : Int) ≤ 8) = decide (l1.length ≤ 8) from by congr 1; exact propext (by omega), show decide ((l2.length : Int) ≤ 10) = decide (l2.length ≤ 10) from by congr 1; exact propext (by omega)]
            simp
          | cons _ _ => simp [doneF]; intros; omega
/-! A record is right. -/
def recP (r : GLogRecord) : Prop := (1 ≤ r.Epoch ∧ r.Epoch ≤ 60 ∧ 1 ≤ r.Lsn ∧ r.Lsn ≤ 60) ∧
  ((r.Kind = 6 ∧ r.Tx = 0 ∧ r.Prev = 0 ∧ r.Next = 0 ∧ r.Page = 0 ∧ r.Slot = 0 ∧ r.Before = [] ∧ isCheckF r.After r.Lsn = true) ∨
   ((1 ≤ r.Kind ∧ r.Kind ≤ 5 ∧ 1 ≤ r.Tx ∧ r.Tx ≤ 60 ∧ 0 ≤ r.Prev ∧ r.Prev ≤ r.Lsn - 1 ∧ (r.Prev = 0 ↔ r.Kind = 1)) ∧
     ((r.Kind = 2 ∧ 0 ≤ r.Page ∧ r.Page ≤ 7 ∧ 0 ≤ r.Slot ∧ r.Slot ≤ 3 ∧ r.Before.length ≤ 30 ∧ r.After.length ≤ 30 ∧ r.Next = 0) ∨
      (r.Kind = 3 ∧ 0 ≤ r.Page ∧ r.Page ≤ 7 ∧ 0 ≤ r.Slot ∧ r.Slot ≤ 3 ∧ r.Before = [] ∧ r.After.length ≤ 30 ∧ 0 ≤ r.Next ∧ r.Next ≤ r.Lsn - 1) ∨
      (r.Kind ≠ 2 ∧ r.Kind ≠ 3 ∧ r.Next = 0 ∧ r.Page = 0 ∧ r.Slot = 0 ∧ r.Before = [] ∧ r.After = []))))
instance recP_dec (r : GLogRecord) : Decidable (recP r) := by unfold recP; infer_instance
def recOK (r : GLogRecord) : Bool := decide (recP r)
theorem recOK_t {r : GLogRecord} (h : recP r) : recOK r = true := by unfold recOK; exact decide_eq_true h
theorem recOK_f {r : GLogRecord} (h : ¬ recP r) : recOK r = false := by unfold recOK; exact decide_eq_false h
/- as the program asks -/
def rest6 (r : GLogRecord) : GLogRecord := ⟨0, 0, 0, 0, 0, r.Next, r.Page, r.Slot, r.Before, []⟩
def restO (r : GLogRecord) : GLogRecord := ⟨0, 0, 0, 0, 0, r.Next, r.Page, r.Slot, r.Before, r.After⟩
def rest2 (r : GLogRecord) : GLogRecord := ⟨0, 0, 0, 0, 0, r.Next, 0, 0, [], []⟩
def rest3 (r : GLogRecord) : GLogRecord := ⟨0, 0, 0, 0, 0, 0, 0, 0, r.Before, []⟩
def badU (r : GLogRecord) : Bool := ((!(inR r.Page 0 (8 - 1) && inR r.Slot 0 (4 - 1)) || decide ((30 : Int) < (r.Before.length : Int))) || decide ((30 : Int) < (r.After.length : Int))) || (decide (r.Kind = 3) && !inR r.Next 0 (r.Lsn - 1))
noncomputable def tailR (r x : GLogRecord) : Bool := (((inR r.Kind 1 5 && eqb x .zero) && inR r.Tx 1 60) && inR r.Prev 0 (r.Lsn - 1)) && (bif false then decide (r.Prev = 0) != decide (r.Kind = 1) else decide (r.Prev = 0) == decide (r.Kind = 1))
noncomputable def val6 (r : GLogRecord) : Bool := ((decide (r.Tx = 0) && decide (r.Prev = 0)) && eqb (rest6 r) .zero) && isCheckF r.After r.Lsn
theorem zero_iff {x : GLogRecord} : eqb x .zero = true ↔ x = .zero := eqb_iff
theorem tailR_iff {r x : GLogRecord} : tailR r x = true ↔ (1 ≤ r.Kind ∧ r.Kind ≤ 5) ∧ x = .zero ∧ (1 ≤ r.Tx ∧ r.Tx ≤ 60) ∧ (0 ≤ r.Prev ∧ r.Prev ≤ r.Lsn - 1) ∧ (r.Prev = 0 ↔ r.Kind = 1) := by
  unfold tailR
  rw [Bool.and_eq_true, Bool.and_eq_true, Bool.and_eq_true, Bool.and_eq_true, inR_iff, inR_iff, inR_iff, zero_iff, cond_false, beq_iff_eq, decide_eq_decide]
  constructor
  · rintro ⟨⟨⟨⟨a, b⟩, c⟩, d⟩, e⟩; exact ⟨a, b, c, d, e⟩
  · rintro ⟨a, b, c, d, e⟩; exact ⟨⟨⟨⟨a, b⟩, c⟩, d⟩, e⟩
theorem badU_no {r : GLogRecord} : badU r = false ↔ (0 ≤ r.Page ∧ r.Page ≤ 7) ∧ (0 ≤ r.Slot ∧ r.Slot ≤ 3) ∧ r.Before.length ≤ 30 ∧ r.After.length ≤ 30 ∧ (r.Kind = 3 → 0 ≤ r.Next ∧ r.Next ≤ r.Lsn - 1) := by
  unfold badU
  rw [Bool.or_eq_false_iff, Bool.or_eq_false_iff, Bool.or_eq_false_iff, Bool.not_eq_false', Bool.and_eq_true, inR_iff, inR_iff, decide_eq_false_iff_not, decide_eq_false_iff_not, Bool.and_eq_false_iff, decide_eq_false_iff_not, Bool.not_eq_false', inR_iff]
  constructor
  · rintro ⟨⟨⟨⟨a, b⟩, c⟩, d⟩, e⟩
    exact ⟨by omega, by omega, by omega, by omega, fun h => e.elim (fun q => absurd h q) id⟩
  · rintro ⟨a, b, c, d, e⟩
    refine ⟨⟨⟨⟨by omega, by omega⟩, by omega⟩, by omega⟩, ?_⟩
    by_cases h : r.Kind = 3
    · exact .inr (e h)
    · exact .inl h
theorem hd_in {r : GLogRecord} (h : ¬ (1 ≤ r.Epoch ∧ r.Epoch ≤ 60) ∨ ¬ (1 ≤ r.Lsn ∧ r.Lsn ≤ 60)) : recOK r = false := recOK_f (fun q => by have := q.1; omega)
theorem rec_bool {r : GLogRecord} {b : Bool} (h : b = true ↔ recP r) : b = recOK r := by
  cases b with
  | true => exact (recOK_t (h.1 rfl)).symm
  | false => exact (recOK_f (fun q => by have := h.2 q; cases this)).symm
theorem recI_6 {r : GLogRecord} (h : (1 ≤ r.Epoch ∧ r.Epoch ≤ 60) ∧ (1 ≤ r.Lsn ∧ r.Lsn ≤ 60)) (hk : r.Kind = 6) : val6 r = recOK r := rec_bool (by
  unfold val6 recP
  rw [Bool.and_eq_true, Bool.and_eq_true, Bool.and_eq_true, decide_eq_true_eq, decide_eq_true_eq, zero_iff, GLogRecord.eq_iff]
  simp only [rest6, GLogRecord.zero, true_and, and_true]
  constructor
  · rintro ⟨⟨⟨a, b⟩, c, d, e, f⟩, g⟩
    exact ⟨by omega, .inl ⟨hk, a, b, c, d, e, f, g⟩⟩
  · rintro ⟨_, h1 | ⟨h1, _⟩⟩
    · exact ⟨⟨⟨h1.2.1, h1.2.2.1⟩, h1.2.2.2.1, h1.2.2.2.2.1, h1.2.2.2.2.2.1, h1.2.2.2.2.2.2.1⟩, h1.2.2.2.2.2.2.2⟩
    · omega)
theorem recI_bad {r : GLogRecord} (hk : r.Kind = 2 ∨ r.Kind = 3) (hb : badU r = true) : recOK r = false := recOK_f (fun q => by
  have hn : ¬ badU r = false := by rw [hb]; simp
  rw [badU_no] at hn
  apply hn
  rcases q.2 with h1 | ⟨h1, h2 | h2 | h2⟩
  · omega
  · exact ⟨by omega, by omega, by omega, by omega, fun h => by omega⟩
  · exact ⟨by omega, by omega, by rw [h2.2.2.2.2.2.1]; simp, by omega, fun h => by omega⟩
  · omega)
theorem recI_2 {r : GLogRecord} (h : (1 ≤ r.Epoch ∧ r.Epoch ≤ 60) ∧ (1 ≤ r.Lsn ∧ r.Lsn ≤ 60)) (hk : r.Kind = 2) (hb : badU r = false) : tailR r (rest2 r) = recOK r := rec_bool (by
  rw [badU_no] at hb
  rw [tailR_iff]; unfold recP
  rw [GLogRecord.eq_iff]
  simp only [rest2, GLogRecord.zero, true_and, and_true]
  constructor
  · rintro ⟨a, b, c, d, e⟩
    exact ⟨by omega, .inr ⟨⟨by omega, by omega, by omega, by omega, by omega, by omega, e⟩, .inl ⟨hk, by omega, by omega, by omega, by omega, by omega, by omega, b⟩⟩⟩
  · rintro ⟨_, h1 | ⟨h1, h2 | h2 | h2⟩⟩
    · omega
    · exact ⟨by omega, h2.2.2.2.2.2.2.2, by omega, by omega, h1.2.2.2.2.2.2⟩
    · omega
    · omega)
theorem recI_3 {r : GLogRecord} (h : (1 ≤ r.Epoch ∧ r.Epoch ≤ 60) ∧ (1 ≤ r.Lsn ∧ r.Lsn ≤ 60)) (hk : r.Kind = 3) (hb : badU r = false) : tailR r (rest3 r) = recOK r := rec_bool (by
  rw [badU_no] at hb
  rw [tailR_iff]; unfold recP
  rw [GLogRecord.eq_iff]
  simp only [rest3, GLogRecord.zero, true_and, and_true]
  have hn := hb.2.2.2.2 hk
  constructor
  · rintro ⟨a, b, c, d, e⟩
    exact ⟨by omega, .inr ⟨⟨by omega, by omega, by omega, by omega, by omega, by omega, e⟩, .inr (.inl ⟨hk, by omega, by omega, by omega, by omega, b, by omega, by omega, by omega⟩)⟩⟩
  · rintro ⟨_, h1 | ⟨h1, h2 | h2 | h2⟩⟩
    · omega
    · omega
    · exact ⟨by omega, h2.2.2.2.2.2.1, by omega, by omega, h1.2.2.2.2.2.2⟩
    · omega)
theorem recI_o {r : GLogRecord} (h : (1 ≤ r.Epoch ∧ r.Epoch ≤ 60) ∧ (1 ≤ r.Lsn ∧ r.Lsn ≤ 60)) (h6 : ¬ r.Kind = 6) (h2 : ¬ r.Kind = 2) (h3 : ¬ r.Kind = 3) : tailR r (restO r) = recOK r := rec_bool (by
  rw [tailR_iff]; unfold recP
  rw [GLogRecord.eq_iff]
  simp only [restO, GLogRecord.zero, true_and]
  constructor
  · rintro ⟨a, ⟨b1, b2, b3, b4, b5⟩, c, d, e⟩
    exact ⟨by omega, .inr ⟨⟨by omega, by omega, by omega, by omega, by omega, by omega, e⟩, .inr (.inr ⟨h2, h3, b1, b2, b3, b4, b5⟩)⟩⟩
  · rintro ⟨_, q | ⟨h1, q | q | q⟩⟩
    · omega
    · omega
    · omega
    · exact ⟨by omega, ⟨q.2.2.1, q.2.2.2.1, q.2.2.2.2.1, q.2.2.2.2.2.1, q.2.2.2.2.2.2⟩, by omega, by omega, h1.2.2.2.2.2.2⟩)
/- as the reference asks -/
def badS0 (r : GLogRecord) : Bool := (((((((!inR r.Epoch 1 60 || !inR r.Lsn 1 60) || !inR r.Kind 1 6) || !inR r.Prev 0 (r.Lsn - 1)) || !inR r.Next 0 (r.Lsn - 1)) || !inR r.Page 0 7) || !inR r.Slot 0 3) || decide ((30 : Int) < (r.Before.length : Int)))
def valS6 (r : GLogRecord) : Bool := ((((((decide (r.Tx = 0) && decide (r.Prev = 0)) && decide (r.Next = 0)) && decide (r.Page = 0)) && decide (r.Slot = 0)) && decide (r.Before = [])) && checkOK r.After r.Lsn)
def badS2 (r : GLogRecord) : Bool := !inR r.Tx 1 60 || decide ((30 : Int) < (r.After.length : Int))
def badS3 (r : GLogRecord) : Bool := ((!(decide (r.Kind = 2) || decide (r.Kind = 3)) && (((!decide (r.Page = 0) || !decide (r.Slot = 0)) || !decide (r.Before = [])) || !decide (r.After = []))) || (!decide (r.Kind = 3) && !decide (r.Next = 0))) || (decide (r.Kind = 3) && !decide (r.Before = []))
def valS4 (r : GLogRecord) : Bool := bif false then decide (r.Kind = 1) != decide (r.Prev = 0) else decide (r.Kind = 1) == decide (r.Prev = 0)
structure InS (r : GLogRecord) : Prop where
  e : 1 ≤ r.Epoch ∧ r.Epoch ≤ 60
  l : 1 ≤ r.Lsn ∧ r.Lsn ≤ 60
  k : 1 ≤ r.Kind ∧ r.Kind ≤ 6
  p : 0 ≤ r.Prev ∧ r.Prev ≤ r.Lsn - 1
  n : 0 ≤ r.Next ∧ r.Next ≤ r.Lsn - 1
  g : 0 ≤ r.Page ∧ r.Page ≤ 7
  s : 0 ≤ r.Slot ∧ r.Slot ≤ 3
  b : r.Before.length ≤ 30
theorem badS0_no {r : GLogRecord} : badS0 r = false ↔ InS r := by
  unfold badS0
  simp only [Bool.or_eq_false_iff, Bool.not_eq_false', inR_iff, decide_eq_false_iff_not]
  constructor
  · rintro ⟨⟨⟨⟨⟨⟨⟨a, b⟩, c⟩, d⟩, e⟩, f⟩, g⟩, h⟩; exact ⟨a, b, c, d, e, f, g, by omega⟩
  · rintro ⟨a, b, c, d, e, f, g, h⟩; exact ⟨⟨⟨⟨⟨⟨⟨a, b⟩, c⟩, d⟩, e⟩, f⟩, g⟩, by omega⟩
theorem recP_in {r : GLogRecord} (h : recP r) : InS r := by
  obtain ⟨h0, h1 | ⟨h1, h2 | h2 | h2⟩⟩ := h
  · exact ⟨by omega, by omega, by omega, by omega, by omega, by omega, by omega, by rw [h1.2.2.2.2.2.2.1]; simp⟩
  · exact ⟨by omega, by omega, by omega, by omega, by omega, by omega, by omega, by omega⟩
  · exact ⟨by omega, by omega, by omega, by omega, by omega, by omega, by omega, by rw [h2.2.2.2.2.2.1]; simp⟩
  · exact ⟨by omega, by omega, by omega, by omega, by omega, by omega, by omega, by rw [h2.2.2.2.2.2.1]; simp⟩
theorem recS_0 {r : GLogRecord} (h : badS0 r = true) : recOK r = false := recOK_f (fun q => by have := badS0_no.2 (recP_in q); rw [h] at this; cases this)
theorem recS_6 {r : GLogRecord} (h : InS r) (hk : r.Kind = 6) : valS6 r = recOK r := rec_bool (by
  unfold valS6 recP
  simp only [Bool.and_eq_true, decide_eq_true_eq]
  have h1 := h.e; have h2 := h.l
  rw [← isCheck_ok]
  constructor
  · rintro ⟨⟨⟨⟨⟨⟨a, b⟩, c⟩, d⟩, e⟩, f⟩, g⟩
    exact ⟨by omega, .inl ⟨hk, a, b, c, d, e, f, g⟩⟩
  · rintro ⟨_, q | ⟨q, _⟩⟩
    · exact ⟨⟨⟨⟨⟨⟨q.2.1, q.2.2.1⟩, q.2.2.2.1⟩, q.2.2.2.2.1⟩, q.2.2.2.2.2.1⟩, q.2.2.2.2.2.2.1⟩, q.2.2.2.2.2.2.2⟩
    · omega)
theorem recS_2 {r : GLogRecord} (h6 : ¬ r.Kind = 6) (h : badS2 r = true) : recOK r = false := recOK_f (fun q => by
  have hn : ¬ badS2 r = false := by rw [h]; simp
  apply hn
  unfold badS2
  simp only [Bool.or_eq_false_iff, Bool.not_eq_false', inR_iff, decide_eq_false_iff_not]
  obtain ⟨h0, h1 | ⟨h1, h2 | h2 | h2⟩⟩ := q
  · omega
  · exact ⟨by omega, by omega⟩
  · exact ⟨by omega, by omega⟩
  · exact ⟨by omega, by rw [h2.2.2.2.2.2.2]; simp⟩)
theorem badS3_no {r : GLogRecord} : badS3 r = false ↔ (¬ r.Kind = 2 → ¬ r.Kind = 3 → r.Page = 0 ∧ r.Slot = 0 ∧ r.Before = [] ∧ r.After = []) ∧ (¬ r.Kind = 3 → r.Next = 0) ∧ (r.Kind = 3 → r.Before = []) := by
  unfold badS3
  simp only [Bool.or_eq_false_iff, Bool.and_eq_false_iff, Bool.not_eq_false', Bool.or_eq_true, decide_eq_true_eq, decide_eq_false_iff_not]
  constructor
  · rintro ⟨⟨a, b⟩, c⟩
    refine ⟨fun h2 h3 => ?_, fun h3 => ?_, fun h3 => ?_⟩
    · rcases a with (a | a) | ⟨⟨⟨a1, a2⟩, a3⟩, a4⟩
      · exact absurd a h2
      · exact absurd a h3
      · exact ⟨a1, a2, a3, a4⟩
    · exact b.resolve_left h3
    · exact c.resolve_left (fun q => q h3)
  · rintro ⟨a, b, c⟩
    refine ⟨⟨?_, ?_⟩, ?_⟩
    · by_cases h2 : r.Kind = 2
      · exact .inl (.inl h2)
      · by_cases h3 : r.Kind = 3
        · exact .inl (.inr h3)
        · obtain ⟨a1, a2, a3, a4⟩ := a h2 h3
          exact .inr ⟨⟨⟨a1, a2⟩, a3⟩, a4⟩
    · by_cases h3 : r.Kind = 3
      · exact .inl h3
      · exact .inr (b h3)
    · by_cases h3 : r.Kind = 3
      · exact .inr (c h3)
      · exact .inl h3
theorem recS_3 {r : GLogRecord} (h6 : ¬ r.Kind = 6) (h : badS3 r = true) : recOK r = false := recOK_f (fun q => by
  have hn : ¬ badS3 r = false := by rw [h]; simp
  apply hn
  rw [badS3_no]
  obtain ⟨h0, h1 | ⟨h1, h2 | h2 | h2⟩⟩ := q
  · omega
  · exact ⟨fun a b => by omega, fun _ => by omega, fun _ => by omega⟩
  · exact ⟨fun a b => by omega, fun _ => by omega, fun _ => h2.2.2.2.2.2.1⟩
  · exact ⟨fun _ _ => ⟨h2.2.2.2.1, h2.2.2.2.2.1, h2.2.2.2.2.2.1, h2.2.2.2.2.2.2⟩, fun _ => h2.2.2.1, fun _ => h2.2.2.2.2.2.1⟩)
theorem recS_4 {r : GLogRecord} (h : InS r) (h6 : ¬ r.Kind = 6) (hb2 : badS2 r = false) (hb3 : badS3 r = false) : valS4 r = recOK r := rec_bool (by
  unfold badS2 at hb2
  simp only [Bool.or_eq_false_iff, Bool.not_eq_false', inR_iff, decide_eq_false_iff_not] at hb2
  rw [badS3_no] at hb3
  obtain ⟨h1, h2, h3, h4, h5, h7, h8, h9⟩ := h
  obtain ⟨a, b, c⟩ := hb3
  unfold valS4 recP
  rw [cond_false, beq_iff_eq, decide_eq_decide]
  constructor
  · intro e
    refine ⟨by omega, .inr ⟨⟨by omega, by omega, by omega, by omega, by omega, by omega, e.symm⟩, ?_⟩⟩
    by_cases k2 : r.Kind = 2
    · exact .inl ⟨k2, by omega, by omega, by omega, by omega, by omega, by omega, b (by omega)⟩
    · by_cases k3 : r.Kind = 3
      · exact .inr (.inl ⟨k3, by omega, by omega, by omega, by omega, c k3, by omega, by omega, by omega⟩)
      · obtain ⟨a1, a2, a3, a4⟩ := a k2 k3
        exact .inr (.inr ⟨k2, k3, b k3, a1, a2, a3, a4⟩)
  · rintro ⟨_, q | ⟨q, _⟩⟩
    · omega
    · exact q.2.2.2.2.2.2.symm)
end Go.AM

/- Plain laws: the lists of a check, as the reference reads them. -/
namespace Go.AM
def prRow (p : Pr) : List D := [.int .i64 (p.1 : Int), .int .i64 (p.2 : Int)]
theorem prs_some : ∀ {n : Nat} {s : Str}, 2 * n ≤ s.length → ∃ l, prs n s = some (l, s.drop (2 * n)) ∧ l.length = n ∧ ∀ i (hi : 2 * i + 1 < s.length), i < n → l[i]? = some (s[2 * i].toNat, s[2 * i + 1].toNat)
  | 0, s, _ => ⟨[], by simp [prs], rfl, fun i _ h => by omega⟩
  | n + 1, a :: b :: s, h => by
    obtain ⟨l, h1, h2, h3⟩ := @prs_some n s (by simp only [List.length_cons] at h; omega)
    refine ⟨(a.toNat, b.toNat) :: l, ?_, by rw [List.length_cons, h2], ?_⟩
    · rw [prs, h1, show 2 * (n + 1) = 2 * n + 1 + 1 from by omega]; rfl
    · intro i hi hin
      cases i with
      | zero => rfl
      | succ i =>
        have hi' : 2 * i + 1 < s.length := by simp only [List.length_cons] at hi; omega
        have e1 : (a :: b :: s)[2 * (i + 1)] = s[2 * i] := by simp only [show 2 * (i + 1) = 2 * i + 1 + 1 from by omega]; rfl
        have e2 : (a :: b :: s)[2 * (i + 1) + 1] = s[2 * i + 1] := by simp only [show 2 * (i + 1) + 1 = 2 * i + 1 + 1 + 1 from by omega]; rfl
        rw [List.getElem?_cons_succ, h3 i hi' (by omega), e1, e2]
  | n + 1, [], h => by simp only [List.length_nil] at h; omega
  | n + 1, [_], h => by simp only [List.length_cons, List.length_nil] at h; omega
theorem prs_none : ∀ {n : Nat} {s : Str}, s.length < 2 * n → prs n s = none
  | 0, s, h => by omega
  | n + 1, a :: b :: s, h => by
    rw [prs, prs_none (by simp only [List.length_cons] at h; omega)]; rfl
  | n + 1, [], _ => rfl
  | n + 1, [_], _ => rfl
def stage2 (l1 : List Pr) (u : Str) : List Pr × List Pr × Bool := match u with
  | [] => (l1, [], false)
  | m :: s => match prs m.toNat s with
    | none => (l1, [], false)
    | some (l2, s3) => (l1, l2, decide (s3 = []))
def readX (t : Str) : List Pr × List Pr × Bool := match t with
  | [] => ([], [], false)
  | n :: s => match prs n.toNat s with
    | none => ([], [], false)
    | some (l1, u) => stage2 l1 u
theorem readX_C {t : Str} : readC t = if (readX t).2.2 = true then some ((readX t).1, (readX t).2.1) else none := by
  unfold readC readX
  cases t with
  | nil => rfl
  | cons n s =>
    simp only
    cases prs n.toNat s with
    | none => rfl
    | some p =>
      obtain ⟨l1, u⟩ := p
      simp only
      unfold stage2
      cases u with
      | nil => rfl
      | cons m s2 =>
        simp only
        cases prs m.toNat s2 with
        | none => rfl
        | some q =>
          obtain ⟨l2, s3⟩ := q
          cases s3 with
          | nil => simp
          | cons _ _ => simp
/-- Two lists are read one behind the other: the state ahead of the one of number k. -/
def CkInv (t : Str) (k : Nat) (l1 l2 : List Pr) (p : Nat) : Prop := p ≤ t.length ∧ l1.length ≤ 255 ∧ l2.length ≤ 255 ∧
  ((k = 0 ∧ l1 = [] ∧ l2 = [] ∧ p = 0) ∨ (k = 1 ∧ l2 = [] ∧ readX t = stage2 l1 (t.drop p)) ∨ (k = 2 ∧ readX t = (l1, l2, decide (p = t.length))))
theorem ck0 {t : Str} : CkInv t 0 [] [] 0 := ⟨Nat.zero_le _, Nat.zero_le _, Nat.zero_le _, .inl ⟨rfl, rfl, rfl, rfl⟩⟩
theorem drop_some {t : Str} {p : Nat} (h : p < t.length) : t.drop p = t[p] :: t.drop (p + 1) := List.drop_eq_getElem_cons h
/- the first list -/
theorem ck_a0 {t : Str} (h : t.length ≤ 0) : readX t = ([], [], false) := by
  obtain rfl : t = [] := List.eq_nil_of_length_eq_zero (by omega)
  rfl
theorem ck_a1 {t : Str} {h : 0 < t.length} (h2 : t.length < 0 + 1 + 2 * t[0].toNat) : readX t = ([], [], false) := by
  cases t with
  | nil => cases h
  | cons n s =>
    simp only [List.length_cons, List.getElem_cons_zero] at h2
    unfold readX
    simp only
    rw [prs_none (by omega)]
theorem ck_a2 {t : Str} {l : List Pr} {h : 0 < t.length} (hl : prs t[0].toNat (t.drop 1) = some (l, (t.drop 1).drop (2 * t[0].toNat))) (hn : l.length = t[0].toNat) (h2 : 1 + 2 * t[0].toNat ≤ t.length) : CkInv t 1 l [] (1 + 2 * t[0].toNat) := by
  have hb := t[0].toNat_lt
  refine ⟨h2, by omega, Nat.zero_le _, .inr (.inl ⟨rfl, rfl, ?_⟩)⟩
  cases t with
  | nil => cases h
  | cons n s =>
    simp only [List.getElem_cons_zero, List.drop_succ_cons, List.drop_zero] at hl ⊢
    unfold readX
    simp only
    rw [hl]
    simp only
    rw [show 1 + 2 * n.toNat = 2 * n.toNat + 1 from by omega, List.drop_succ_cons]
/- the second -/
theorem ck_b0 {t : Str} {l : List Pr} {p : Nat} (e : readX t = stage2 l (t.drop p)) (h : t.length ≤ p) : readX t = (l, [], false) := by
  rw [e, List.drop_eq_nil_of_le h]; rfl
theorem ck_b1 {t : Str} {l : List Pr} {p : Nat} (e : readX t = stage2 l (t.drop p)) {h : p < t.length} (h2 : t.length < p + 1 + 2 * t[p].toNat) : readX t = (l, [], false) := by
  rw [e, drop_some h]
  unfold stage2
  simp only
  rw [prs_none (by rw [List.length_drop]; omega)]
theorem ck_b2 {t : Str} {l l2 : List Pr} {p : Nat} (e : readX t = stage2 l (t.drop p)) (hll : l.length ≤ 255) {h : p < t.length} (hl : prs t[p].toNat (t.drop (p + 1)) = some (l2, (t.drop (p + 1)).drop (2 * t[p].toNat))) (hn : l2.length = t[p].toNat) (h2 : p + 1 + 2 * t[p].toNat ≤ t.length) :
    CkInv t 2 l l2 (p + 1 + 2 * t[p].toNat) := by
  have hb := t[p].toNat_lt
  refine ⟨h2, hll, by omega, .inr (.inr ⟨rfl, ?_⟩)⟩
  rw [e, drop_some h]
  unfold stage2
  simp only
  rw [hl]
  simp only [List.drop_drop]
  rw [show decide (t.drop (p + 1 + 2 * t[p].toNat) = []) = decide (p + 1 + 2 * t[p].toNat = t.length) from by
    congr 1; rw [List.drop_eq_nil_iff]; exact propext (by omega)]
/-- What the list of number k is, all at once. -/
theorem ck_list {t : Str} {p n : Nat} (h2 : p + 2 * n ≤ t.length) : ∃ l, prs n (t.drop p) = some (l, (t.drop p).drop (2 * n)) ∧ l.length = n ∧ ∀ i (hi : p + 2 * i + 1 < t.length), i < n → l[i]? = some (t[p + 2 * i].toNat, t[p + 2 * i + 1].toNat) := by
  obtain ⟨l, a, b, c⟩ := @prs_some n (t.drop p) (by rw [List.length_drop]; omega)
  refine ⟨l, a, b, fun i hi hin => ?_⟩
  rw [c i (by rw [List.length_drop]; omega) hin]
  simp only [List.getElem_drop]
  rfl
theorem take_pr {l : List Pr} {i : Nat} {a b : Nat} (h : l[i]? = some (a, b)) : (l.take i).map prRow ++ [[D.int .i64 (a : Int), D.int .i64 (b : Int)]] = (l.take (i + 1)).map prRow := by
  rw [List.take_add_one, h]; simp [prRow]
/-! A check is right. -/
def prevP (l : List Pr) (b : Int) (i : Nat) : Int := if i = 0 then b else ((l[i - 1]?.map (·.1)).getD 0 : Nat)
def badPr (lo high lsn : Int) (l : List Pr) (i : Nat) (hi : i < l.length) : Bool :=
  (!inR (l[i].1 : Int) lo high || !inR (l[i].2 : Int) 1 (lsn - 1)) || (decide ((0 : Int) < (i : Int)) && decide ((l[i].1 : Int) ≤ ((l[i - 1]'(by omega)).1 : Int)))
theorem okL_step {high lsn b : Int} {l : List Pr} {i : Nat} (hi : i < l.length) (hb : b + 1 ≤ 1) : okL high lsn (l.drop i) (prevP l b i) = (!badPr (b + 1) high lsn l i hi && okL high lsn (l.drop (i + 1)) (prevP l b (i + 1))) := by
  rw [List.drop_eq_getElem_cons hi, okL]
  have e : prevP l b (i + 1) = (l[i].1 : Int) := by unfold prevP; rw [if_neg (by omega), Nat.add_sub_cancel, List.getElem?_eq_getElem hi]; rfl
  rw [e]
  congr 1
  unfold badPr
  rw [Bool.not_or, Bool.not_or, Bool.not_not, Bool.not_not]
  have key : inR (l[i].1 : Int) (prevP l b i + 1) high = (inR (l[i].1 : Int) (b + 1) high && !(decide ((0 : Int) < (i : Int)) && decide ((l[i].1 : Int) ≤ ((l[i - 1]'(by omega)).1 : Int)))) := by
    rw [Bool.eq_iff_iff, Bool.and_eq_true, inR_iff, inR_iff, Bool.not_eq_true', Bool.and_eq_false_iff, decide_eq_false_iff_not, decide_eq_false_iff_not]
    unfold prevP
    by_cases h0 : i = 0
    · rw [if_pos h0]
      constructor
      · rintro h; exact ⟨h, .inl (by omega)⟩
      · rintro ⟨h, _⟩; exact h
    · rw [if_neg h0, List.getElem?_eq_getElem (by omega)]
      simp only [Option.map_some, Option.getD_some]
      constructor
      · rintro ⟨h, h'⟩; exact ⟨⟨by omega, h'⟩, .inr (by omega)⟩
      · rintro ⟨⟨h, h'⟩, q | q⟩
        · omega
        · exact ⟨by omega, h'⟩
  rw [key]
  cases inR (l[i].1 : Int) (b + 1) high <;> cases inR (l[i].2 : Int) 1 (lsn - 1) <;> cases (decide ((0 : Int) < (i : Int)) && decide ((l[i].1 : Int) ≤ ((l[i - 1]'(by omega)).1 : Int))) <;> rfl
theorem okL_end {high lsn b : Int} {l : List Pr} : okL high lsn (l.drop l.length) b = true := by rw [List.drop_length]; rfl
def badX (p : List Pr × List Pr × Bool) : Bool := (!p.2.2 || decide ((8 : Int) < (p.1.length : Int))) || decide ((10 : Int) < (p.2.1.length : Int))
theorem checkX {t : Str} {lsn : Int} : checkOK t lsn = (!badX (readX t) && (okL 7 lsn (readX t).1 (-1) && okL 60 lsn (readX t).2.1 0)) := by
  unfold checkOK badX
  rw [readX_C]
  split
  · rename_i h
    split at h
    · cases h
    · rename_i h'
      rw [Bool.not_eq_true] at h'
      rw [h']; rfl
  · rename_i l1 l2 h
    split at h
    · rename_i h'
      simp only [Option.some.injEq, Prod.mk.injEq] at h
      rw [h', h.1, h.2]
      simp only [Bool.not_true, Bool.false_or, Bool.not_or]
      rw [show (!decide ((8 : Int) < (l1.length : Int))) = decide (l1.length ≤ 8) from by rw [← decide_not]; congr 1; exact propext (by omega), show (!decide ((10 : Int) < (l2.length : Int))) = decide (l2.length ≤ 10) from by rw [← decide_not]; congr 1; exact propext (by omega)]
      cases decide (l1.length ≤ 8) <;> cases decide (l2.length ≤ 10) <;> cases okL 7 lsn l1 (-1) <;> cases okL 60 lsn l2 0 <;> rfl
    · cases h
theorem readX_len {t : Str} : (readX t).1.length ≤ 255 ∧ (readX t).2.1.length ≤ 255 := by
  have h : ∀ {n : UInt8} {s u : Str} {l : List Pr}, prs n.toNat s = some (l, u) → l.length ≤ 255 := fun {n s u l} h => by
    have hb := n.toNat_lt
    rcases Nat.lt_or_ge s.length (2 * n.toNat) with q | q
    · rw [prs_none q] at h; cases h
    · obtain ⟨l', a, b, _⟩ := prs_some q
      rw [a] at h; cases h; omega
  unfold readX
  cases t with
  | nil => simp
  | cons n s =>
    simp only
    cases hp : prs n.toNat s with
    | none => simp
    | some p =>
      obtain ⟨l1, u⟩ := p
      simp only
      unfold stage2
      cases u with
      | nil => simp [h hp]
      | cons m s2 =>
        simp only
        cases hq : prs m.toNat s2 with
        | none => simp [h hp]
        | some q =>
          obtain ⟨l2, s3⟩ := q
          simp [h hp, h hq]
end Go.AM

/- Plain laws: the analysis of a log: lists that rise by a number, what each record does to them. -/
namespace Go.AM
section
variable {α : Type} (κ : α → Int)
def posK : List α → Int → Nat
  | [], _ => 0
  | a :: l, x => if κ a < x then posK l x + 1 else 0
def atK (l : List α) (x : Int) : Bool := match l[posK κ l x]? with
  | some a => decide (κ a = x)
  | none => false
def SortK (l : List α) : Prop := l.Pairwise (fun a b => κ a < κ b)
variable {κ}
theorem posK_le : ∀ {l : List α} {x : Int}, posK κ l x ≤ l.length
  | [], _ => Nat.le_refl _
  | a :: l, x => by
    rw [posK]; split
    · rw [List.length_cons]; exact Nat.succ_le_succ posK_le
    · exact Nat.zero_le _
theorem posK_lt : ∀ {l : List α} {x : Int} {j : Nat} (h : j < l.length), j < posK κ l x → κ l[j] < x
  | a :: l, x, j, h, hj => by
    rw [posK] at hj
    split at hj
    · rename_i ha
      cases j with
      | zero => exact ha
      | succ j => exact posK_lt (l := l) (by simpa using h) (by omega)
    · omega
theorem posK_at : ∀ {l : List α} {x : Int} (h : posK κ l x < l.length), ¬ κ l[posK κ l x] < x
  | a :: l, x, h => by
    by_cases ha : κ a < x
    · have e : posK κ (a :: l) x = posK κ l x + 1 := by rw [posK, if_pos ha]
      have h' : posK κ l x < l.length := by rw [e] at h; simpa using h
      have := posK_at h'
      simp only [e, List.getElem_cons_succ]; exact this
    · have e : posK κ (a :: l) x = 0 := by rw [posK, if_neg ha]
      simp only [e, List.getElem_cons_zero]; exact ha
theorem posK_ge {l : List α} {x : Int} (hs : SortK κ l) {j : Nat} (h : j < l.length) (hj : posK κ l x ≤ j) : x ≤ κ l[j] := by
  have h0 := posK_at (κ := κ) (l := l) (x := x) (by omega)
  rcases Nat.eq_or_lt_of_le hj with e | e
  · subst e; omega
  · have := List.pairwise_iff_getElem.1 hs (posK κ l x) j (by omega) h e
    omega
theorem posK_of {l : List α} {x : Int} {k : Nat} (hk : k ≤ l.length) (h1 : ∀ j (h : j < l.length), j < k → κ l[j] < x) (h2 : ∀ h : k < l.length, ¬ κ l[k] < x) : k = posK κ l x := by
  have hp := @posK_le α κ l x
  rcases Nat.lt_trichotomy k (posK κ l x) with h | h | h
  · exact absurd (posK_lt (by omega) h) (h2 (by omega))
  · exact h
  · exact absurd (h1 (posK κ l x) (by omega) h) (posK_at (by omega))
theorem atK_iff {l : List α} {x : Int} : atK κ l x = true ↔ ∃ h : posK κ l x < l.length, κ l[posK κ l x] = x := by
  unfold atK
  by_cases h : posK κ l x < l.length
  · rw [List.getElem?_eq_getElem h]; simp [h]
  · rw [List.getElem?_eq_none (by omega)]; simp [h]
theorem atK_no {l : List α} {x : Int} (h : atK κ l x = false) (hl : posK κ l x < l.length) : ¬ κ l[posK κ l x] = x := fun e => by
  rw [atK_iff.2 ⟨hl, e⟩] at h; cases h
theorem atK_cmp {l : List α} {x : Int} : hitA (fun r => cmpI (κ r) x) l (posK κ l x) = atK κ l x := by
  unfold atK hitA
  cases l[posK κ l x]? with
  | none => rfl
  | some s =>
    by_cases h : κ s = x
    · simp [h, cmpI_z.2]
    · have : ¬ cmpI (κ s) x = 0 := fun e => h (cmpI_z.1 e)
      simp [h, this]
variable (κ)
def insK (l : List α) (a : α) : List α := if atK κ l (κ a) = true then l else insA l (posK κ l (κ a)) a
def putKx (l : List α) (a : α) : List α := if atK κ l (κ a) = true then l.set (posK κ l (κ a)) a else insA l (posK κ l (κ a)) a
def delK (l : List α) (x : Int) : List α := if atK κ l x = true then delA l (posK κ l x) else l
variable {κ}
theorem take_K {l : List α} {x : Int} : ∀ a ∈ l.take (posK κ l x), κ a < x := by
  intro a ha
  obtain ⟨j, hj, rfl⟩ := List.mem_iff_getElem.1 ha
  rw [List.getElem_take]
  simp only [List.length_take] at hj
  exact posK_lt (by omega) (by omega)
theorem drop_K {l : List α} {x : Int} (hs : SortK κ l) : ∀ a ∈ l.drop (posK κ l x), x ≤ κ a := by
  intro a ha
  obtain ⟨j, hj, rfl⟩ := List.mem_iff_getElem.1 ha
  rw [List.getElem_drop]
  simp only [List.length_drop] at hj
  exact posK_ge hs (by omega) (by omega)
theorem drop_K1 {l : List α} {x : Int} (hs : SortK κ l) (h : atK κ l x = false) : ∀ a ∈ l.drop (posK κ l x), x < κ a := by
  intro a ha
  obtain ⟨j, hj, rfl⟩ := List.mem_iff_getElem.1 ha
  rw [List.getElem_drop]
  simp only [List.length_drop] at hj
  have h1 := posK_ge (x := x) hs (j := posK κ l x) (by omega) (Nat.le_refl _)
  have h2 := atK_no h (by omega)
  cases j with
  | zero => simp only [Nat.add_zero]; omega
  | succ j =>
    have := List.pairwise_iff_getElem.1 hs (posK κ l x) (posK κ l x + (j + 1)) (by omega) (by omega) (by omega)
    omega
theorem drop_K2 {l : List α} {x : Int} (hs : SortK κ l) (h : atK κ l x = true) : ∀ a ∈ l.drop (posK κ l x + 1), x < κ a := by
  intro a ha
  obtain ⟨hl, he⟩ := atK_iff.1 h
  obtain ⟨j, hj, rfl⟩ := List.mem_iff_getElem.1 ha
  rw [List.getElem_drop]
  simp only [List.length_drop] at hj
  have := List.pairwise_iff_getElem.1 hs (posK κ l x) (posK κ l x + 1 + j) (by omega) (by omega) (by omega)
  omega
theorem insA_sort {l : List α} {a : α} (hs : SortK κ l) (h : atK κ l (κ a) = false) : SortK κ (insA l (posK κ l (κ a)) a) := by
  unfold insA SortK
  rw [List.pairwise_append]
  refine ⟨hs.sublist (List.take_sublist _ _), List.pairwise_cons.2 ⟨drop_K1 hs h, hs.sublist (List.drop_sublist _ _)⟩, fun b hb c hc => ?_⟩
  have h1 := take_K b hb
  rcases List.mem_cons.1 hc with rfl | hc
  · exact h1
  · have := drop_K1 hs h c hc; omega
theorem insK_sort {l : List α} {a : α} (hs : SortK κ l) : SortK κ (insK κ l a) := by
  unfold insK; split
  · exact hs
  · rename_i h; exact insA_sort hs (by simpa using h)
theorem putKx_sort {l : List α} {a : α} (hs : SortK κ l) : SortK κ (putKx κ l a) := by
  unfold putKx; split
  · rename_i h
    obtain ⟨hl, he⟩ := atK_iff.1 h
    have e : (l.set (posK κ l (κ a)) a).map κ = l.map κ := by
      rw [List.map_set]
      have : (l.map κ)[posK κ l (κ a)]'(by simpa using hl) = κ a := by rw [List.getElem_map]; exact he
      exact (congrArg ((l.map κ).set (posK κ l (κ a))) this.symm).trans (List.set_getElem_self _)
    unfold SortK at hs ⊢
    have h1 := List.pairwise_map (f := κ) (R := (· < ·)) (l := l)
    have h2 := List.pairwise_map (f := κ) (R := (· < ·)) (l := l.set (posK κ l (κ a)) a)
    rw [← h2, e, h1]; exact hs
  · rename_i h; exact insA_sort hs (by simpa using h)
theorem delK_eq {l : List α} {x : Int} (hs : SortK κ l) : l.filter (fun a => !decide (κ a = x)) = delK κ l x := by
  have e : l = l.take (posK κ l x) ++ l.drop (posK κ l x) := (List.take_append_drop _ _).symm
  have h1 : (l.take (posK κ l x)).filter (fun a => !decide (κ a = x)) = l.take (posK κ l x) := List.filter_eq_self.2 (fun a ha => by have := take_K a ha; simp; omega)
  unfold delK
  by_cases h : atK κ l x = true
  · rw [if_pos h]
    obtain ⟨hl, he⟩ := atK_iff.1 h
    have h2 : (l.drop (posK κ l x)).filter (fun a => !decide (κ a = x)) = l.drop (posK κ l x + 1) := by
      rw [List.drop_eq_getElem_cons hl, List.filter_cons_of_neg (by simp [he])]
      exact List.filter_eq_self.2 (fun a ha => by have := drop_K2 hs h a ha; simp; omega)
    conv => lhs; rw [e]
    rw [List.filter_append, h1, h2]; rfl
  · rw [if_neg h]
    have h2 : (l.drop (posK κ l x)).filter (fun a => !decide (κ a = x)) = l.drop (posK κ l x) := List.filter_eq_self.2 (fun a ha => by have := drop_K1 hs (by simpa using h) a ha; simp; omega)
    conv => lhs; rw [e]
    rw [List.filter_append, h1, h2, List.take_append_drop]
theorem delK_sort {l : List α} {x : Int} (hs : SortK κ l) : SortK κ (delK κ l x) := by
  rw [← delK_eq hs]; exact List.Pairwise.filter _ hs
theorem insK_len {l : List α} {a : α} : (insK κ l a).length ≤ l.length + 1 := by
  unfold insK; split
  · omega
  · rw [insA_len posK_le]; exact Nat.le_refl _
theorem putKx_len {l : List α} {a : α} : (putKx κ l a).length ≤ l.length + 1 := by
  unfold putKx; split
  · simp
  · rw [insA_len posK_le]; exact Nat.le_refl _
theorem delK_len {l : List α} {x : Int} : (delK κ l x).length ≤ l.length := by
  unfold delK; split
  · rename_i h; obtain ⟨hk, _⟩ := atK_iff.1 h; rw [delA_len hk]; omega
  · exact Nat.le_refl _
theorem insK_1 {l : List α} {a : α} (h : atK κ l (κ a) = true) : insK κ l a = l := by unfold insK; rw [if_pos h]
theorem insK_2 {l : List α} {a : α} (h : atK κ l (κ a) = false) : insK κ l a = insA l (posK κ l (κ a)) a := by unfold insK; rw [if_neg (by rw [h]; simp)]
theorem putKx_1 {l : List α} {a : α} (h : atK κ l (κ a) = true) : putKx κ l a = l.set (posK κ l (κ a)) a := by unfold putKx; rw [if_pos h]
theorem putKx_2 {l : List α} {a : α} (h : atK κ l (κ a) = false) : putKx κ l a = insA l (posK κ l (κ a)) a := by unfold putKx; rw [if_neg (by rw [h]; simp)]
theorem delK_1 {l : List α} {x : Int} (h : atK κ l x = true) : delK κ l x = delA l (posK κ l x) := by unfold delK; rw [if_pos h]
theorem delK_2 {l : List α} {x : Int} (h : atK κ l x = false) : delK κ l x = l := by unfold delK; rw [if_neg (by rw [h]; simp)]
end
/-! What each record does. -/
def dOf (p : Pr) : GDirty := ⟨p.1, p.2⟩
def tOf (p : Pr) : GTx := ⟨p.1, p.2⟩
abbrev AnS := List GDirty × List GTx
def listsA (r : GLogRecord) : AnS := ((readX r.After).1.map dOf, (readX r.After).2.1.map tOf)
def stepA (s : AnS) (r : GLogRecord) : AnS :=
  if r.Kind = 6 then listsA r
  else if r.Kind = 4 ∨ r.Kind = 5 then (s.1, delK GTx.Id s.2 r.Tx)
  else (if r.Kind = 2 ∨ r.Kind = 3 then insK GDirty.No s.1 ⟨r.Page, r.Lsn⟩ else s.1, putKx GTx.Id s.2 ⟨r.Tx, r.Lsn⟩)
def anaF (l : List GLogRecord) (k : Nat) : AnS := (l.take k).foldl stepA ([], [])
theorem anaF_0 {l : List GLogRecord} : anaF l 0 = ([], []) := rfl
theorem anaF_succ {l : List GLogRecord} {k : Nat} (h : k < l.length) : anaF l (k + 1) = stepA (anaF l k) l[k] := by
  unfold anaF
  rw [List.take_add_one, List.getElem?_eq_getElem h, List.foldl_append]; rfl
theorem step_6 {s : AnS} {r : GLogRecord} (h : r.Kind = 6) : stepA s r = listsA r := by unfold stepA; rw [if_pos h]
theorem step_d {s : AnS} {r : GLogRecord} (h6 : ¬ r.Kind = 6) (h : r.Kind = 4 ∨ r.Kind = 5) : stepA s r = (s.1, delK GTx.Id s.2 r.Tx) := by unfold stepA; rw [if_neg h6, if_pos h]
theorem step_u {s : AnS} {r : GLogRecord} (h6 : ¬ r.Kind = 6) (h4 : ¬ (r.Kind = 4 ∨ r.Kind = 5)) (h : r.Kind = 2 ∨ r.Kind = 3) : stepA s r = (insK GDirty.No s.1 ⟨r.Page, r.Lsn⟩, putKx GTx.Id s.2 ⟨r.Tx, r.Lsn⟩) := by unfold stepA; rw [if_neg h6, if_neg h4, if_pos h]
theorem step_o {s : AnS} {r : GLogRecord} (h6 : ¬ r.Kind = 6) (h4 : ¬ (r.Kind = 4 ∨ r.Kind = 5)) (h : ¬ (r.Kind = 2 ∨ r.Kind = 3)) : stepA s r = (s.1, putKx GTx.Id s.2 ⟨r.Tx, r.Lsn⟩) := by unfold stepA; rw [if_neg h6, if_neg h4, if_neg h]
theorem okL_sort {high lsn : Int} : ∀ {l : List Pr} {b : Int}, okL high lsn l b = true → (∀ p ∈ l, b < (p.1 : Int)) ∧ l.Pairwise (fun a b => (a.1 : Int) < (b.1 : Int))
  | [], _, _ => ⟨fun p hp => (by cases hp), List.Pairwise.nil⟩
  | p :: l, b, h => by
    rw [okL, Bool.and_eq_true, Bool.and_eq_true, inR_iff] at h
    obtain ⟨h1, h2⟩ := okL_sort h.2
    refine ⟨fun q hq => ?_, List.pairwise_cons.2 ⟨h1, h2⟩⟩
    rcases List.mem_cons.1 hq with rfl | hq
    · omega
    · have := h1 q hq; omega
theorem rec_check {r : GLogRecord} (h : recOK r = true) (hk : r.Kind = 6) : checkOK r.After r.Lsn = true := by
  have h := of_decide_eq_true h
  rcases h.2 with q | ⟨q, _⟩
  · rw [← isCheck_ok]; exact q.2.2.2.2.2.2.2
  · omega
theorem rec_lsn {r : GLogRecord} (h : recOK r = true) : 1 ≤ r.Lsn ∧ r.Lsn ≤ 60 := by
  have h := (of_decide_eq_true h).1
  exact ⟨h.2.2.1, h.2.2.2⟩
theorem rec_lists {r : GLogRecord} (h : recOK r = true) (hk : r.Kind = 6) : readC r.After = some ((readX r.After).1, (readX r.After).2.1) ∧ SortK GDirty.No (listsA r).1 ∧ SortK GTx.Id (listsA r).2 := by
  have hc := rec_check h hk
  rw [checkX, Bool.and_eq_true, Bool.and_eq_true, Bool.not_eq_true'] at hc
  obtain ⟨h1, h2, h3⟩ := hc
  unfold badX at h1
  rw [Bool.or_eq_false_iff, Bool.or_eq_false_iff, Bool.not_eq_false'] at h1
  refine ⟨by rw [readX_C, if_pos h1.1.1], ?_, ?_⟩
  · exact List.pairwise_map.2 (okL_sort h2).2
  · exact List.pairwise_map.2 (okL_sort h3).2
structure AnI (s : AnS) (k : Nat) : Prop where
  sd : SortK GDirty.No s.1
  st : SortK GTx.Id s.2
  ld : s.1.length ≤ 255 + k
  lt : s.2.length ≤ 255 + k
theorem AnI.step {s : AnS} {k : Nat} {r : GLogRecord} (H : AnI s k) (h : recOK r = true) : AnI (stepA s r) (k + 1) := by
  obtain ⟨h1, h2, h3, h4⟩ := H
  have hl := @readX_len r.After
  by_cases h6 : r.Kind = 6
  · rw [step_6 h6]
    obtain ⟨_, q2, q3⟩ := rec_lists h h6
    exact ⟨q2, q3, by unfold listsA; rw [List.length_map]; omega, by unfold listsA; rw [List.length_map]; omega⟩
  · by_cases h5 : r.Kind = 4 ∨ r.Kind = 5
    · rw [step_d h6 h5]
      have := delK_len (κ := GTx.Id) (l := s.2) (x := r.Tx)
      exact ⟨h1, delK_sort h2, by simp only; omega, by simp only; omega⟩
    · have q1 := insK_len (κ := GDirty.No) (l := s.1) (a := ⟨r.Page, r.Lsn⟩)
      have q2 := putKx_len (κ := GTx.Id) (l := s.2) (a := ⟨r.Tx, r.Lsn⟩)
      by_cases h3' : r.Kind = 2 ∨ r.Kind = 3
      · rw [step_u h6 h5 h3']
        exact ⟨insK_sort h1, putKx_sort h2, by simp only; omega, by simp only; omega⟩
      · rw [step_o h6 h5 h3']
        exact ⟨h1, putKx_sort h2, by simp only; omega, by simp only; omega⟩
theorem anaI {l : List GLogRecord} (hr : ∀ i (h : i < l.length), recOK l[i] = true) : ∀ k, k ≤ l.length → AnI (anaF l k) k
  | 0, _ => ⟨List.Pairwise.nil, List.Pairwise.nil, Nat.zero_le _, Nat.zero_le _⟩
  | k + 1, h => by
    rw [anaF_succ (by omega)]
    exact (anaI hr k (by omega)).step (hr k (by omega))
def okAtA (l : List GLogRecord) (i : Nat) : Bool := match l[i]? with
  | none => true
  | some r => recOK r && decide (r.Lsn = ((i + 1 : Nat) : Int))
def goodA (l : List GLogRecord) : Bool := (List.range l.length).all (okAtA l)
def analyzeF (l : List GLogRecord) : AnS × Int := if 4096 < l.length then (([], []), 2) else if 60 < l.length then (([], []), 6) else if goodA l = false then (([], []), 1) else (anaF l l.length, 0)
theorem goodA_iff {l : List GLogRecord} : goodA l = true ↔ ∀ i (h : i < l.length), recOK l[i] = true ∧ l[i].Lsn = ((i + 1 : Nat) : Int) := by
  unfold goodA
  rw [List.all_eq_true]
  constructor
  · intro h i hi
    have := h i (List.mem_range.2 hi)
    unfold okAtA at this
    rw [List.getElem?_eq_getElem hi, Bool.and_eq_true, decide_eq_true_eq] at this
    exact this
  · intro h i hi
    have hi := List.mem_range.1 hi
    unfold okAtA
    rw [List.getElem?_eq_getElem hi, Bool.and_eq_true, decide_eq_true_eq]
    exact h i hi
theorem goodA_no {l : List GLogRecord} {i : Nat} (h : i < l.length) (hb : ¬ (recOK l[i] = true ∧ l[i].Lsn = ((i + 1 : Nat) : Int))) : goodA l = false := by
  cases e : goodA l with
  | false => rfl
  | true => exact absurd (goodA_iff.1 e i h) hb
theorem analyzeF_0 {l : List GLogRecord} (h : 4096 < l.length) : analyzeF l = (([], []), 2) := by unfold analyzeF; rw [if_pos h]
theorem analyzeF_1 {l : List GLogRecord} (h : ¬ 4096 < l.length) (h1 : 60 < l.length) : analyzeF l = (([], []), 6) := by unfold analyzeF; rw [if_neg h, if_pos h1]
theorem analyzeF_2 {l : List GLogRecord} (h : ¬ 4096 < l.length) (h1 : ¬ 60 < l.length) (h2 : goodA l = false) : analyzeF l = (([], []), 1) := by unfold analyzeF; rw [if_neg h, if_neg h1, if_pos h2]
theorem analyzeF_3 {l : List GLogRecord} (h : ¬ 4096 < l.length) (h1 : ¬ 60 < l.length) (h2 : goodA l = true) : analyzeF l = (anaF l l.length, 0) := by unfold analyzeF; rw [if_neg h, if_neg h1, if_neg (by rw [h2]; simp)]
theorem analyzeF_len {l : List GLogRecord} : (analyzeF l).1.1.length ≤ 1000 ∧ (analyzeF l).1.2.length ≤ 1000 := by
  unfold analyzeF
  split
  · simp
  · split
    · simp
    · split
      · simp
      · rename_i h
        have := anaI (fun i hi => (goodA_iff.1 (by simpa using h) i hi).1) l.length (Nat.le_refl _)
        have h1 := this.ld; have h2 := this.lt
        simp only; omega
/-! The lists, read from their start. -/
theorem prs_step {l : List Pr} {k : Nat} {u s : Str} (hk : k < l.length) (h : prs (l.length - k) u = some (l.drop k, s)) : ∃ c1 c2 u2, u = c1 :: c2 :: u2 ∧ l[k]? = some (c1.toNat, c2.toNat) ∧ prs (l.length - (k + 1)) u2 = some (l.drop (k + 1), s) := by
  obtain ⟨n, hn⟩ : ∃ n, l.length - k = n + 1 := ⟨l.length - k - 1, by omega⟩
  rw [hn, List.drop_eq_getElem_cons hk] at h
  match u, h with
  | [], h => rw [prs] at h; cases h; simp
  | [_], h => rw [prs] at h; cases h; simp
  | c1 :: c2 :: u2, h =>
    rw [prs] at h
    cases hp : prs n u2 with
    | none => rw [hp] at h; cases h
    | some p =>
      obtain ⟨q, s'⟩ := p
      rw [hp] at h
      simp only [Option.map_some, Option.some.injEq, Prod.mk.injEq, List.cons.injEq] at h
      refine ⟨c1, c2, u2, rfl, by rw [List.getElem?_eq_getElem hk, h.1.1], ?_⟩
      rw [show l.length - (k + 1) = n from by omega, hp, h.1.2, h.2]
theorem prs_stop {l : List Pr} {u s : Str} (h : prs 0 u = some (l, s)) : u = s := by rw [prs] at h; cases h; rfl
theorem prs_n {n : Nat} {u s : Str} {l : List Pr} (h : prs n u = some (l, s)) : l.length = n ∧ s.length ≤ u.length := by
  rcases Nat.lt_or_ge u.length (2 * n) with q | q
  · rw [prs_none q] at h; cases h
  · obtain ⟨l', a, b, _⟩ := prs_some q
    rw [a] at h; cases h
    exact ⟨b, by rw [List.length_drop]; omega⟩
theorem prs_len {n : Nat} {u s : Str} {l : List Pr} (h : prs n u = some (l, s)) : s.length ≤ u.length := (prs_n h).2
theorem readC_parts {t : Str} {l1 l2 : List Pr} (h : readC t = some (l1, l2)) : ∃ n1 n2 s1 s2, t = n1 :: s1 ∧ prs l1.length s1 = some (l1, n2 :: s2) ∧ prs l2.length s2 = some (l2, []) ∧ l1.length = (n1 : UInt8).toNat ∧ l2.length = (n2 : UInt8).toNat := by
  unfold readC at h
  cases t with
  | nil => cases h
  | cons n s =>
    simp only at h
    cases hp : prs n.toNat s with
    | none => rw [hp] at h; cases h
    | some p =>
      obtain ⟨a, u⟩ := p
      rw [hp] at h
      cases u with
      | nil => cases h
      | cons m s2 =>
        simp only at h
        cases hq : prs m.toNat s2 with
        | none => rw [hq] at h; cases h
        | some q =>
          obtain ⟨b, s3⟩ := q
          rw [hq] at h
          cases s3 with
          | cons _ _ => cases h
          | nil =>
            simp only [Option.some.injEq, Prod.mk.injEq] at h
            obtain ⟨rfl, rfl⟩ := h
            have h1 := (prs_n hp).1; have h2 := (prs_n hq).1
            exact ⟨n, m, s, s2, rfl, by rw [h1]; exact hp, by rw [h2]; exact hq, h1, h2⟩
end Go.AM
namespace Go.AM
theorem goodA_lsn {l : List GLogRecord} (h : goodA l = true) : l.any (fun r => decide ((60 : Int) < r.Lsn)) = false := by
  rw [List.any_eq_false]
  intro r hr
  obtain ⟨i, hi, rfl⟩ := List.mem_iff_getElem.1 hr
  have := rec_lsn (goodA_iff.1 h i hi).1
  rw [decide_eq_true_eq]; omega
theorem goodA_rec {l : List GLogRecord} (h : goodA l = true) : ∀ i (hi : i < l.length), recOK l[i] = true := fun i hi => (goodA_iff.1 h i hi).1
theorem log_sz {l : List GLogRecord} {n : Nat} (h : szL GLogRecord.sz l ≤ n) : l.length ≤ n ∧ ∀ i (hi : i < l.length), l[i].After.length ≤ n := by
  have h1 := @szL_len _ GLogRecord.sz l
  refine ⟨by omega, fun i hi => ?_⟩
  have h2 := szL_mem (f := GLogRecord.sz) (List.getElem_mem hi)
  have h3 : GLogRecord.sz l[i] = l[i].Before.length + l[i].After.length := rfl
  omega
end Go.AM

/- Plain laws: lists that are put together of parts, row by row. -/
namespace Go.AM
section
variable {α : Type} {κ : α → Int}
theorem mapAtZ {row : α → List D} {xs : List α} {z : α} {k : Nat} (h : k < xs.length) : (xs.map row)[k]? = some (row (xs.getD k z)) := by
  rw [mapAt h]; simp [List.getD_eq_getElem?_getD, h]
theorem getD_z {xs : List α} {z : α} {k : Nat} (h : k < xs.length) : xs.getD k z = xs[k] := by simp [List.getD_eq_getElem?_getD, h]
theorem app_tk {f : Pr → α} {row : α → List D} {l : List Pr} {j : Nat} (hf : ∀ p, row (f p) = prRow p) (h : j < l.length) : (((l.take j).map f).map row).take j ++ [prRow l[j]] = ((l.take (j + 1)).map f).map row := by
  rw [List.take_of_length_le (l := ((l.take j).map f).map row) (by simp; omega), List.take_add_one, List.getElem?_eq_getElem h, List.map_append, List.map_append]
  simp [hf]
theorem atK_t {l : List α} {x : Int} {z : α} (h : ((posK κ l x : Nat) : Int) < (l.length : Int) ∧ κ (l.getD (posK κ l x) z) = x) : atK κ l x = true := by
  have h1 : posK κ l x < l.length := by have := h.1; omega
  exact atK_iff.2 ⟨h1, by have := h.2; rwa [getD_z h1] at this⟩
theorem atK_f {l : List α} {x : Int} {z : α} (h : ¬ ((posK κ l x : Nat) : Int) < (l.length : Int) ∨ ¬ κ (l.getD (posK κ l x) z) = x) : atK κ l x = false := by
  cases e : atK κ l x with
  | false => rfl
  | true =>
    obtain ⟨h1, h2⟩ := atK_iff.1 e
    rcases h with h | h
    · omega
    · rw [getD_z h1] at h; exact absurd h2 h
theorem take_row {row : α → List D} {l : List α} {P : Nat} : ((l.map row).drop 0).take P = (l.take P).map row := by
  rw [List.drop_zero, List.map_take]
theorem delA_rows {row : α → List D} {l : List α} {P : Nat} (h : P < l.length) : ((l.take P).map row).take P ++ ((l.map row).drop (P + 1)).take (l.length - (P + 1)) = (delA l P).map row := by
  rw [List.take_of_length_le (l := (l.take P).map row) (by simp; omega), List.take_of_length_le (l := (l.map row).drop (P + 1)) (by simp)]
  simp [delA]
theorem delA_cnt {row : α → List D} {l : List α} {P : Nat} (h : P < l.length) : P + (((l.map row).drop (P + 1)).take (l.length - (P + 1))).length = (delA l P).length := by
  simp [delA]; omega
theorem insA_mid {row : α → List D} {l : List α} {P : Nat} {a : α} (h : P ≤ l.length) : ((l.take P).map row).take P ++ [row a] = (l.take P ++ [a]).map row := by
  rw [List.take_of_length_le (l := (l.take P).map row) (by simp; omega)]
  simp
theorem insA_rows {row : α → List D} {l : List α} {P : Nat} {a : α} (h : P ≤ l.length) : ((l.take P ++ [a]).map row).take (P + 1) ++ ((l.map row).drop P).take (l.length - P) = (insA l P a).map row := by
  rw [List.take_of_length_le (l := (l.take P ++ [a]).map row) (by simp; omega), List.take_of_length_le (l := (l.map row).drop P) (by simp)]
  simp [insA]
theorem insA_cnt {row : α → List D} {l : List α} {P : Nat} {a : α} (h : P ≤ l.length) : P + 1 + (((l.map row).drop P).take (l.length - P)).length = (insA l P a).length := by
  simp [insA]; omega
end
theorem setTx {a : GTx} {x l : Int} (h : a.Id = x) : setF a.row 1 [.int .i64 l] = some (GTx.row ⟨x, l⟩) := by subst h; rfl
end Go.AM

