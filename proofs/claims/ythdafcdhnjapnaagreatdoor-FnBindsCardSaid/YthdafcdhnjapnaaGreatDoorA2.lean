/- A layer over the calls (plain data, own blocks, code, contracts) and plain laws about what the functions compute (part 2). -/
import Derived.Test.YthdafcdhnjapnaaGreatDoorA1
import Derived.Lib.ItoaNum
import Derived.Lib.Atoi
import Derived.Lib.Bytealg
import Derived.Lib.LaidTab
set_option linter.unusedVariables false
set_option linter.unusedSimpArgs false
namespace Go.AM
abbrev IDp := Int × Int
def prow (p : IDp) : List D := [.int .i64 p.1, .int .i64 p.2]
def popF (S : List IDp) (a : Int) : Int × Bool × List IDp := match S.getLast? with
  | none => (0, false, S)
  | some p => if p.1 = a then (p.2, true, S.dropLast) else (0, false, S)
def okD (S : List IDp) (x : GExprNode) : Bool × Int × List IDp :=
  if x.Op = 1 then (((decide (x.A = 0) && decide (x.B = 0)) && decide (x.Column = 0)) && valueOK x.V, 0, S)
  else if x.Op = 2 then (((decide (x.A = 0) && decide (x.B = 0)) && inR x.Column 0 2) && zeroV x.V, 0, S)
  else if inR x.Op 3 5 = true then ((((popF S x.A).2.1 && decide (x.B = 0)) && decide (x.Column = 0)) && zeroV x.V, (popF S x.A).1, (popF S x.A).2.2)
  else if inR x.Op 6 13 = true then
    ((((popF S x.B).2.1 && (popF (popF S x.B).2.2 x.A).2.1) && decide (x.Column = 0)) && zeroV x.V, mxI (popF (popF S x.B).2.2 x.A).1 (popF S x.B).1, (popF (popF S x.B).2.2 x.A).2.2)
  else (false, 0, S)
def stepD (S : List IDp) (i : Int) (x : GExprNode) : Option (List IDp) := if (okD S x).1 = false then none else some ((okD S x).2.2 ++ [(i, (okD S x).2.1 + 1)])
def scanD (ns : List GExprNode) : Nat → Option (List IDp)
  | 0 => some []
  | k + 1 => match scanD ns k with
    | none => none
    | some S => match ns[k]? with
      | none => none
      | some x => stepD S k x
def depthF (ns : List GExprNode) : Int := match scanD ns ns.length with
  | none => 0
  | some S => if S.length = 1 then (S.getD 0 (0, 0)).2 else 0
theorem popF_top {S : List IDp} {p : IDp} : popF (S ++ [p]) p.1 = (p.2, true, S) := by unfold popF; simp
theorem popF_ok {S : List IDp} {a : Int} (h : (popF S a).2.1 = true) : ∃ S0 d, S = S0 ++ [(a, d)] := by
  rcases List.eq_nil_or_concat S with rfl | ⟨S0, p, rfl⟩
  · simp [popF] at h
  · unfold popF at h
    simp only [List.concat_eq_append, List.getLast?_append, List.getLast?_singleton, Option.some_or] at h
    by_cases hp : p.1 = a
    · exact ⟨S0, p.2, by rw [List.concat_eq_append, ← hp]⟩
    · rw [if_neg hp] at h; cases h
section
variable {ns : List GExprNode}
theorem nodeW_congr {r r' : Int → W3} {i : Int} {x : GExprNode} (h : ∀ k, k < i → r k = r' k) (hb : (r (i - 1)).1 ≤ i - 1 ∨ (r (i - 1)).1 = 0) (hi : 0 ≤ i) : nodeW r i x = nodeW r' i x := by
  unfold nodeW
  rw [← h (i - 1) (by omega), ← h ((r (i - 1)).1 - 1) (by omega)]
theorem walkF_fuel : ∀ {f f' : Nat} {i : Int}, i + 1 < f → i + 1 < f' → walkF ns f i = walkF ns f' i
  | 0, f', i, h1, h2 => by rw [walkF_neg (by omega), walkF_neg (by omega)]
  | f, 0, i, h1, h2 => by rw [walkF_neg (by omega), walkF_neg (by omega)]
  | f + 1, f' + 1, i, h1, h2 => by
    by_cases hi : i < 0
    · rw [walkF_neg hi, walkF_neg hi]
    · rw [walkF, walkF, if_neg hi, if_neg hi]
      split
      · rfl
      · exact nodeW_congr (fun k hk => walkF_fuel (by omega) (by omega)) walkF_b.2.1 (by omega)
/-- The walk, with enough steps. -/
def T (ns : List GExprNode) (i : Int) : W3 := walkF ns (i + 2).toNat i
theorem T_of {f : Nat} {i : Int} (h : i + 1 < f) (hi : -1 ≤ i) : walkF ns f i = T ns i := walkF_fuel h (by omega)
theorem T_neg {i : Int} (h : i < 0) : T ns i = (0, 0, false) := walkF_neg h
theorem T_at {j : Nat} (h : j < ns.length) : T ns j = nodeW (T ns) j ns[j] := by
  unfold T
  rw [show ((j : Int) + 2).toNat = (j + 1) + 1 from by omega, walkF_at h]
  refine nodeW_congr (fun k hk => ?_) walkF_b.2.1 (by omega)
  by_cases hk0 : k < 0
  · rw [walkF_neg hk0]; exact (T_neg hk0).symm
  · exact T_of (by omega) (by omega)
theorem T_b {i : Int} : 0 ≤ (T ns i).1 ∧ ((T ns i).1 ≤ i ∨ (T ns i).1 = 0) := ⟨walkF_b.1, walkF_b.2.1⟩
theorem T_d : ∀ {f : Nat} {i : Int}, (walkF ns f i).2.2 = true → 1 ≤ (walkF ns f i).2.1
  | 0, i, h => by simp [walkF] at h
  | f + 1, i, h => by
    rw [walkF] at h ⊢
    split at h
    · cases h
    · rename_i hi
      rw [if_neg hi]
      split at h
      · cases h
      · rename_i x hx
        have b1 := @walkF_b ns f (i - 1)
        have b2 := @walkF_b ns f ((walkF ns f (i - 1)).1 - 1)
        have c := mxI_b (n := f) (a := (walkF ns f ((walkF ns f (i - 1)).1 - 1)).2.1) (b := (walkF ns f (i - 1)).2.1) ⟨b2.2.2.1, b2.2.2.2⟩ ⟨b1.2.2.1, b1.2.2.2⟩
        unfold nodeW at h ⊢
        split
        · simp
        · split
          · simp
          · split
            · dsimp only; omega
            · split
              · split
                · rename_i h1 h2 h3 h4 h5
                  rw [if_neg h1, if_neg h2, if_neg h3, if_pos h4, if_pos h5] at h; cases h
                · dsimp only; omega
              · rename_i h1 h2 h3 h4
                rw [if_neg h1, if_neg h2, if_neg h3, if_neg h4] at h; cases h
/-- What stands on the stack: trees side by side. -/
inductive Segs (ns : List GExprNode) : List IDp → Nat → Prop
  | nil : Segs ns [] 0
  | snoc {S : List IDp} {a i : Nat} {d : Int} : Segs ns S a → T ns i = ((a : Int), d, true) → Segs ns (S ++ [((i : Int), d)]) (i + 1)
theorem Segs.zero {S : List IDp} (h : Segs ns S 0) : S = [] := by cases h; rfl
theorem Segs.top {S : List IDp} {k : Nat} (h : Segs ns S (k + 1)) : ∃ S0 a d, S = S0 ++ [((k : Int), d)] ∧ Segs ns S0 a ∧ T ns k = ((a : Int), d, true) := by
  cases h with
  | snoc h1 h2 => exact ⟨_, _, _, rfl, h1, h2⟩
theorem Segs.none {k : Nat} (h : Segs ns [] k) : k = 0 := by
  cases k with
  | zero => rfl
  | succ k => obtain ⟨S0, a, d, e, _⟩ := h.top; exact absurd e (by simp)
theorem Segs.concat {S0 : List IDp} {p : IDp} {k : Nat} (h : Segs ns (S0 ++ [p]) k) : ∃ i a : Nat, k = i + 1 ∧ p.1 = i ∧ Segs ns S0 a ∧ T ns i = ((a : Int), p.2, true) := by
  cases k with
  | zero => exact absurd h.zero (by simp)
  | succ k =>
    obtain ⟨S1, a, d, e, h1, h2⟩ := h.top
    have e2 := List.append_inj' e rfl
    simp only [List.cons.injEq, and_true] at e2
    obtain ⟨rfl, rfl⟩ := e2
    exact ⟨k, a, rfl, rfl, h1, h2⟩
theorem step_sound {S S' : List IDp} {k : Nat} (hk : k < ns.length) (h : Segs ns S k) (hs : stepD S k ns[k] = some S') : Segs ns S' (k + 1) := by
  unfold stepD at hs
  split at hs
  · cases hs
  · rename_i ho
    have ho : (okD S ns[k]).1 = true := by cases hh : (okD S ns[k]).1 with | true => rfl | false => exact absurd hh ho
    simp only [Option.some.injEq] at hs
    subst hs
    have ht := T_at (ns := ns) hk
    unfold okD at ho ⊢
    split
    · rename_i h1
      rw [if_pos h1] at ho
      dsimp only at ho
      rw [nodeW_1 h1, ho] at ht
      exact .snoc h ht
    · rename_i h1
      rw [if_neg h1] at ho
      split
      · rename_i h2
        rw [if_pos h2] at ho
        dsimp only at ho
        rw [nodeW_2 h1 h2, ho] at ht
        exact .snoc h ht
      · rename_i h2
        rw [if_neg h2] at ho
        split
        · rename_i h3
          rw [if_pos h3] at ho
          dsimp only at ho ⊢
          simp only [Bool.and_eq_true, decide_eq_true_eq] at ho
          obtain ⟨⟨⟨o1, o2⟩, o3⟩, o4⟩ := ho
          obtain ⟨S0, d, rfl⟩ := popF_ok o1
          obtain ⟨i, a, rfl, e1, g1, g2⟩ := h.concat
          have hA : ns[i + 1].A = i := e1
          rw [nodeW_3 h1 h2 h3, show (((i + 1 : Nat) : Int) - 1) = i from by omega, g2] at ht
          rw [show popF (S0 ++ [(ns[i + 1].A, d)]) ns[i + 1].A = (d, true, S0) from popF_top]
          simp only [hA, o2, o3, o4, decide_true, Bool.and_true] at ht
          exact .snoc g1 ht
        · rename_i h3
          have h3 : inR ns[k].Op 3 5 = false := by cases hh : inR ns[k].Op 3 5 with | false => rfl | true => exact absurd hh h3
          rw [if_neg (by rw [h3]; simp)] at ho
          split
          · rename_i h4
            rw [if_pos h4] at ho
            dsimp only at ho ⊢
            simp only [Bool.and_eq_true, decide_eq_true_eq] at ho
            obtain ⟨⟨⟨o1, o5⟩, o3⟩, o4⟩ := ho
            obtain ⟨S0, d, rfl⟩ := popF_ok o1
            obtain ⟨i, a, rfl, e1, g1, g2⟩ := h.concat
            have hB : ns[i + 1].B = i := e1
            rw [show popF (S0 ++ [(ns[i + 1].B, d)]) ns[i + 1].B = (d, true, S0) from popF_top] at o5 ⊢
            dsimp only at o5 ⊢
            obtain ⟨S1, d2, rfl⟩ := popF_ok o5
            obtain ⟨i2, a2, rfl, e2, g3, g4⟩ := g1.concat
            have hA : ns[i + 1].A = i2 := e2
            rw [show popF (S1 ++ [(ns[i + 1].A, d2)]) ns[i + 1].A = (d2, true, S1) from popF_top]
            rw [nodeW_5 h1 h2 h3 h4 (by rw [show (((i + 1 : Nat) : Int) - 1) = i from by omega, g2])] at ht
            rw [show (((i + 1 : Nat) : Int) - 1) = i from by omega, g2] at ht
            dsimp only at ht
            rw [show (((i2 + 1 : Nat) : Int) - 1) = i2 from by omega, g4] at ht
            simp only [hA, hB, o3, o4, decide_true, Bool.and_true] at ht
            exact .snoc g3 ht
          · rename_i h4
            rw [if_neg h4] at ho; cases ho
theorem step_full {S : List IDp} {k : Nat} (hk : k < ns.length) (h : Segs ns S k) (ht : (T ns k).2.2 = true) : ∃ S', stepD S k ns[k] = some S' := by
  have key : (okD S ns[k]).1 = true := by
    rw [T_at hk] at ht
    unfold okD
    split
    · rename_i h1; rw [nodeW_1 h1] at ht; exact ht
    · rename_i h1
      split
      · rename_i h2; rw [nodeW_2 h1 h2] at ht; exact ht
      · rename_i h2
        split
        · rename_i h3
          rw [nodeW_3 h1 h2 h3] at ht
          simp only [Bool.and_eq_true, decide_eq_true_eq] at ht ⊢
          obtain ⟨⟨⟨⟨o1, o0⟩, o2⟩, o3⟩, o4⟩ := ht
          cases k with
          | zero => rw [T_neg (by omega)] at o1; cases o1
          | succ k =>
            obtain ⟨S0, a, d, rfl, g1, g2⟩ := h.top
            have : ns[k + 1].A = k := by omega
            rw [this, show popF (S0 ++ [((k : Int), d)]) (k : Int) = (d, true, S0) from popF_top]
            exact ⟨⟨⟨rfl, o2⟩, o3⟩, o4⟩
        · rename_i h3
          have h3 : inR ns[k].Op 3 5 = false := by cases hh : inR ns[k].Op 3 5 with | false => rfl | true => exact absurd hh h3
          split
          · rename_i h4
            cases hr : (T ns ((k : Int) - 1)).2.2 with
            | false => rw [nodeW_4 h1 h2 h3 h4 hr] at ht; cases ht
            | true =>
              rw [nodeW_5 h1 h2 h3 h4 hr] at ht
              simp only [Bool.and_eq_true, decide_eq_true_eq] at ht ⊢
              obtain ⟨⟨⟨⟨o1, o0⟩, o2⟩, o3⟩, o4⟩ := ht
              cases k with
              | zero => rw [T_neg (by omega)] at hr; cases hr
              | succ k =>
                obtain ⟨S0, a, d, rfl, g1, g2⟩ := h.top
                rw [show (((k + 1 : Nat) : Int) - 1) = k from by omega, g2] at o0 o1
                dsimp only at o0 o1
                cases a with
                | zero => rw [T_neg (by omega)] at o1; cases o1
                | succ a =>
                  obtain ⟨S1, a2, d2, rfl, g3, g4⟩ := g1.top
                  have hB : ns[k + 1].B = k := by omega
                  have hA : ns[k + 1].A = a := by omega
                  rw [hA, hB, show popF (S1 ++ [((a : Int), d2)] ++ [((k : Int), d)]) (k : Int) = (d, true, S1 ++ [((a : Int), d2)]) from popF_top]
                  dsimp only
                  rw [show popF (S1 ++ [((a : Int), d2)]) (a : Int) = (d2, true, S1) from popF_top]
                  exact ⟨⟨⟨rfl, rfl⟩, o3⟩, o4⟩
          · rename_i h4
            have h4 : inR ns[k].Op 6 13 = false := by cases hh : inR ns[k].Op 6 13 with | false => rfl | true => exact absurd hh h4
            rw [nodeW_6 h1 h2 h3 h4] at ht; cases ht
  unfold stepD
  rw [if_neg (by rw [key]; simp)]
  exact ⟨_, rfl⟩
theorem scan_sound : ∀ {k : Nat} {S : List IDp}, k ≤ ns.length → scanD ns k = some S → Segs ns S k
  | 0, S, _, h => by simp only [scanD, Option.some.injEq] at h; subst h; exact .nil
  | k + 1, S, hk, h => by
    rw [scanD] at h
    split at h
    · cases h
    · rename_i S0 h0
      rw [List.getElem?_eq_getElem (by omega)] at h
      exact step_sound (by omega) (scan_sound (by omega) h0) h
theorem scan_full : ∀ {k : Nat}, k ≤ ns.length → (∀ j : Nat, j < k → (T ns j).2.2 = true) → ∃ S, scanD ns k = some S
  | 0, _, _ => ⟨[], rfl⟩
  | k + 1, hk, h => by
    obtain ⟨S, hS⟩ := scan_full (k := k) (by omega) (fun j hj => h j (by omega))
    obtain ⟨S', h'⟩ := step_full (by omega) (scan_sound (by omega) hS) (h k (by omega))
    exact ⟨S', by rw [scanD, hS, List.getElem?_eq_getElem (by omega)]; exact h'⟩
/-- All that a tree spans is right. -/
theorem T_span : ∀ (n : Nat) (i : Nat), i < n → i < ns.length → (T ns i).2.2 = true → ∀ j : Nat, (T ns i).1 ≤ j → j ≤ i → (T ns j).2.2 = true
  | 0, i, h, _, _, _, _, _ => by omega
  | n + 1, i, hn, hi, ht, j, h1, h2 => by
    by_cases hji : j = i
    · subst hji; exact ht
    · have ht0 := ht
      rw [T_at hi] at ht h1
      by_cases o1 : ns[i].Op = 1
      · rw [nodeW_1 o1] at h1; dsimp only at h1; omega
      · by_cases o2 : ns[i].Op = 2
        · rw [nodeW_2 o1 o2] at h1; dsimp only at h1; omega
        · cases o3 : inR ns[i].Op 3 5 with
          | true =>
            rw [nodeW_3 o1 o2 o3] at h1 ht
            simp only [Bool.and_eq_true] at ht
            dsimp only at h1
            rw [show ((i : Int) - 1) = ((i - 1 : Nat) : Int) from by omega] at h1 ht
            exact T_span n (i - 1) (by omega) (by omega) ht.1.1.1.1 j h1 (by omega)
          | false =>
            cases o4 : inR ns[i].Op 6 13 with
            | false => rw [nodeW_6 o1 o2 o3 o4] at ht; cases ht
            | true =>
              cases o5 : (T ns ((i : Int) - 1)).2.2 with
              | false => rw [nodeW_4 o1 o2 o3 o4 o5] at ht; cases ht
              | true =>
                rw [nodeW_5 o1 o2 o3 o4 o5] at h1 ht
                simp only [Bool.and_eq_true] at ht
                dsimp only at h1
                have b := @T_b ns ((i : Int) - 1)
                rw [show ((i : Int) - 1) = ((i - 1 : Nat) : Int) from by omega] at h1 ht o5 b
                by_cases hj : (T ns ((i - 1 : Nat) : Int)).1 ≤ j
                · exact T_span n (i - 1) (by omega) (by omega) o5 j hj (by omega)
                · have ho := ht.1.1.1.1
                  have hp : 0 ≤ (T ns ((i - 1 : Nat) : Int)).1 - 1 := by omega
                  obtain ⟨m, hm⟩ : ∃ m : Nat, (T ns ((i - 1 : Nat) : Int)).1 - 1 = (m : Int) := ⟨((T ns ((i - 1 : Nat) : Int)).1 - 1).toNat, by omega⟩
                  rw [hm] at h1 ho
                  exact T_span n m (by omega) (by omega) ho j h1 (by omega)
theorem depth_ok (hl : 1 ≤ ns.length) : inR (depthF ns) 1 12 = (((T ns ((ns.length : Int) - 1)).2.2 && decide ((T ns ((ns.length : Int) - 1)).1 = 0)) && decide ((T ns ((ns.length : Int) - 1)).2.1 ≤ 12)) := by
  rw [Bool.eq_iff_iff, inR_iff]
  simp only [Bool.and_eq_true, decide_eq_true_eq]
  obtain ⟨m, hm⟩ : ∃ m, ns.length = m + 1 := ⟨ns.length - 1, by omega⟩
  have hi : ((ns.length : Int) - 1) = (m : Int) := by omega
  rw [hi]
  constructor
  · intro h
    unfold depthF at h
    split at h
    · omega
    · rename_i S hS
      have g := scan_sound (Nat.le_refl _) hS
      rw [hm] at g
      obtain ⟨S0, a, d, rfl, g1, g2⟩ := g.top
      split at h
      · rename_i hl1
        have : S0 = [] := List.eq_nil_of_length_eq_zero (by simp only [List.length_append, List.length_singleton] at hl1; omega)
        subst this
        have ha : a = 0 := g1.none
        subst ha
        rw [g2]
        simp at h
        exact ⟨⟨rfl, rfl⟩, h.2⟩
      · omega
  · rintro ⟨⟨h1, h2⟩, h3⟩
    obtain ⟨S, hS⟩ := scan_full (ns := ns) (Nat.le_refl _) (fun j hj => T_span (m + 1) m (by omega) (by omega) h1 j (by omega) (by omega))
    have g := scan_sound (Nat.le_refl _) hS
    rw [hm] at g
    obtain ⟨S0, a, d, rfl, g1, g2⟩ := g.top
    have ha : a = 0 := by rw [g2] at h2; dsimp only at h2; omega
    subst ha
    have := g1.zero
    subst this
    unfold depthF
    rw [hS]
    have hd := T_d (ns := ns) h1
    change 1 ≤ (T ns m).2.1 at hd
    rw [g2] at hd h3
    simp
    exact ⟨hd, h3⟩
theorem exprOK_i {e : GExpr} : (inR (e.Nodes.length : Int) 1 40 && inR (depthF e.Nodes) 1 12) = exprOK e := by
  cases h : inR (e.Nodes.length : Int) 1 40 with
  | false => rw [exprOK_0 h]; rfl
  | true =>
    have := inR_iff.1 h
    rw [exprOK_1 h, Bool.true_and, depth_ok (by omega), T_of (by omega) (by omega)]
end
end Go.AM

namespace Go.AM
theorem popF_no {S : List IDp} {a : Int} (h : (S.length : Int) - 1 < 0 ∨ ¬ (S.getD (S.length - 1) (0, 0)).1 = a) : popF S a = (0, false, S) := by
  rcases List.eq_nil_or_concat S with rfl | ⟨S0, p, rfl⟩
  · rfl
  · rw [List.concat_eq_append] at h ⊢
    unfold popF
    simp only [List.length_append, List.length_singleton] at h
    rcases h with h | h
    · omega
    · have : ¬ p.1 = a := by simpa [List.getD] using h
      simp [this]
theorem popF_yes {S : List IDp} {a : Int} (h : ¬ (S.length : Int) - 1 < 0) (h1 : (S.getD (S.length - 1) (0, 0)).1 = a) : popF S a = ((S.getD (S.length - 1) (0, 0)).2, true, S.dropLast) := by
  rcases List.eq_nil_or_concat S with rfl | ⟨S0, p, rfl⟩
  · simp at h
  · rw [List.concat_eq_append] at h h1 ⊢
    have e : (S0 ++ [p]).getD ((S0 ++ [p]).length - 1) (0, 0) = p := by simp [List.getD]
    rw [e] at h1 ⊢
    unfold popF
    simp [h1]
theorem top_row {S : List IDp} {rs : List (List D)} (hrs : rs.take S.length = S.map prow) (h : ¬ (S.length : Int) - 1 < 0) : rs[((S.length : Int) - 1).toNat]? = some (prow (S.getD (S.length - 1) (0, 0))) := by
  have e : ((S.length : Int) - 1).toNat = S.length - 1 := by omega
  have h1 : (rs.take S.length)[S.length - 1]? = (S.map prow)[S.length - 1]? := by rw [hrs]
  rw [List.getElem?_take, if_pos (by omega), List.getElem?_map, List.getElem?_eq_getElem (by omega : S.length - 1 < S.length)] at h1
  rw [e, h1]
  simp [List.getD, show S.length - 1 < S.length from by omega]
theorem popF_len {S : List IDp} {a : Int} : (popF S a).2.2.length ≤ S.length := by
  unfold popF; split
  · exact Nat.le_refl _
  · split
    · dsimp only; rw [List.length_dropLast]; omega
    · exact Nat.le_refl _
theorem popF_rs {S : List IDp} {a : Int} {rs : List (List D)} (hrs : rs.take S.length = S.map prow) : rs.take (popF S a).2.2.length = (popF S a).2.2.map prow := by
  unfold popF; split
  · exact hrs
  · split
    · dsimp only
      have : (rs.take S.length).take S.dropLast.length = (S.map prow).take S.dropLast.length := by rw [hrs]
      rw [List.take_take, List.length_dropLast, Nat.min_eq_left (by omega), ← List.map_take] at this
      rw [List.length_dropLast, this, List.dropLast_eq_take]
    · exact hrs
section
variable {S : List IDp} {x : GExprNode}
theorem okD_1 (h : x.Op = 1) : okD S x = (((decide (x.A = 0) && decide (x.B = 0)) && decide (x.Column = 0)) && valueOK x.V, 0, S) := by unfold okD; rw [if_pos h]
theorem okD_2 (h : ¬ x.Op = 1) (h1 : x.Op = 2) : okD S x = (((decide (x.A = 0) && decide (x.B = 0)) && inR x.Column 0 2) && zeroV x.V, 0, S) := by unfold okD; rw [if_neg h, if_pos h1]
theorem okD_3 (h : ¬ x.Op = 1) (h1 : ¬ x.Op = 2) (h2 : inR x.Op 3 5 = true) : okD S x = ((((popF S x.A).2.1 && decide (x.B = 0)) && decide (x.Column = 0)) && zeroV x.V, (popF S x.A).1, (popF S x.A).2.2) := by unfold okD; rw [if_neg h, if_neg h1, if_pos h2]
theorem okD_4 (h : ¬ x.Op = 1) (h1 : ¬ x.Op = 2) (h2 : inR x.Op 3 5 = false) (h3 : inR x.Op 6 13 = true) : okD S x = ((((popF S x.B).2.1 && (popF (popF S x.B).2.2 x.A).2.1) && decide (x.Column = 0)) && zeroV x.V, mxI (popF (popF S x.B).2.2 x.A).1 (popF S x.B).1, (popF (popF S x.B).2.2 x.A).2.2) := by
  unfold okD; rw [if_neg h, if_neg h1, if_neg (by rw [h2]; simp), if_pos h3]
theorem okD_5 (h : ¬ x.Op = 1) (h1 : ¬ x.Op = 2) (h2 : inR x.Op 3 5 = false) (h3 : inR x.Op 6 13 = false) : okD S x = (false, 0, S) := by
  unfold okD; rw [if_neg h, if_neg h1, if_neg (by rw [h2]; simp), if_neg (by rw [h3]; simp)]
end
section
variable {ns : List GExprNode} {S : List IDp} {k : Nat}
theorem scan_none : ∀ {m : Nat}, k ≤ m → scanD ns k = none → scanD ns m = none
  | 0, hk, h => by have : k = 0 := by omega
                   subst this; exact h
  | m + 1, hk, h => by
    by_cases e : k = m + 1
    · subst e; exact h
    · rw [scanD, scan_none (by omega) h]
theorem scan_next (hk : k < ns.length) (h : scanD ns k = some S) : scanD ns (k + 1) = stepD S k ns[k] := by rw [scanD, h, List.getElem?_eq_getElem hk]
theorem stepD_f {x : GExprNode} (h : (okD S x).1 = false) : stepD S k x = none := by unfold stepD; rw [if_pos h]
theorem stepD_t {x : GExprNode} (h : (okD S x).1 = true) : stepD S k x = some ((okD S x).2.2 ++ [((k : Int), (okD S x).2.1 + 1)]) := by unfold stepD; rw [if_neg (by rw [h]; simp)]
theorem depthF_none (hk : k ≤ ns.length) (h : scanD ns k = none) : depthF ns = 0 := by unfold depthF; rw [scan_none hk h]
theorem depthF_no (h : scanD ns ns.length = some S) (h1 : ¬ (S.length : Int) = 1) : depthF ns = 0 := by unfold depthF; rw [h]; dsimp only; rw [if_neg (by omega)]
theorem depthF_yes (h : scanD ns ns.length = some S) (h1 : (S.length : Int) = 1) : depthF ns = (S.getD 0 (0, 0)).2 := by unfold depthF; rw [h]; dsimp only; rw [if_pos (by omega)]
/-- Depths are small. -/
def lowS (S : List IDp) (n : Int) : Prop := ∀ p ∈ S, 0 ≤ p.2 ∧ p.2 ≤ n
theorem popF_low {a n : Int} (hn : 0 ≤ n) (h : lowS S n) : 0 ≤ (popF S a).1 ∧ (popF S a).1 ≤ n ∧ lowS (popF S a).2.2 n := by
  unfold popF; split
  · exact ⟨Int.le_refl _, hn, h⟩
  · rename_i p hp
    split
    · have := h p (List.mem_of_getLast? hp)
      exact ⟨this.1, this.2, fun q hq => h q ((List.dropLast_sublist _).subset hq)⟩
    · exact ⟨Int.le_refl _, hn, h⟩
theorem okD_low {x : GExprNode} {n : Int} (hn : 0 ≤ n) (h : lowS S n) : 0 ≤ (okD S x).2.1 ∧ (okD S x).2.1 ≤ n ∧ lowS (okD S x).2.2 n ∧ (okD S x).2.2.length ≤ S.length := by
  have a := popF_low (a := x.A) hn h
  have b := popF_low (a := x.B) hn h
  have c := popF_low (a := x.A) hn b.2.2
  have d := mxI_b ⟨c.1, c.2.1⟩ ⟨b.1, b.2.1⟩
  have e1 := @popF_len S x.A
  have e2 := @popF_len S x.B
  have e3 := @popF_len (popF S x.B).2.2 x.A
  unfold okD
  split
  · exact ⟨Int.le_refl _, hn, h, Nat.le_refl _⟩
  · split
    · exact ⟨Int.le_refl _, hn, h, Nat.le_refl _⟩
    · split
      · exact ⟨a.1, a.2.1, a.2.2, e1⟩
      · split
        · exact ⟨d.1, d.2, c.2.2, by dsimp only; omega⟩
        · exact ⟨Int.le_refl _, hn, h, Nat.le_refl _⟩
theorem okD_rs {x : GExprNode} {rs : List (List D)} (hrs : rs.take S.length = S.map prow) : rs.take (okD S x).2.2.length = (okD S x).2.2.map prow := by
  unfold okD
  split
  · exact hrs
  · split
    · exact hrs
    · split
      · exact popF_rs hrs
      · split
        · exact popF_rs (popF_rs hrs)
        · exact hrs
theorem lowS_app {d n : Int} {i : Int} (h : lowS S n) (hd : 0 ≤ d ∧ d ≤ n) : lowS (S ++ [(i, d + 1)]) (n + 1) := fun p hp => by
  rcases List.mem_append.1 hp with hp | hp
  · have := h p hp; omega
  · rw [List.mem_singleton] at hp; subst hp; dsimp only; omega
end
theorem stk_le {S : List IDp} {rs : List (List D)} (h : rs.take S.length = S.map prow) : S.length ≤ rs.length := by
  have := congrArg List.length h
  rw [List.length_take, List.length_map] at this
  omega
theorem stk_len {α : Type} {X : Option (List IDp)} {S : List IDp} {p : IDp} {x : α} (_ : X = some (S ++ [p])) : S.length + [x].length = (S ++ [p]).length := by simp
theorem stk_app {X : Option (List IDp)} {S : List IDp} {p : IDp} {rs : List (List D)} (_ : X = some (S ++ [p])) (h : rs.take S.length = S.map prow) : rs.take S.length ++ [prow p] = (S ++ [p]).map prow := by rw [h, List.map_append]; rfl
theorem stk_inv {X : Option (List IDp)} {S : List IDp} {p : IDp} (_ : X = some (S ++ [p])) : ((S ++ [p]).map prow).take (S ++ [p]).length = (S ++ [p]).map prow := List.take_of_length_le (by simp)
theorem row0 {S : List IDp} {rs : List (List D)} (h : rs.take S.length = S.map prow) (h1 : (S.length : Int) = 1) : rs[(0 : Int).toNat]? = some (prow (S.getD 0 (0, 0))) := by
  have h2 : (rs.take S.length)[0]? = (S.map prow)[0]? := by rw [h]
  rw [List.getElem?_take, if_pos (by omega), List.getElem?_map, List.getElem?_eq_getElem (by omega : 0 < S.length)] at h2
  show rs[0]? = _
  rw [h2]
  simp [List.getD, show 0 < S.length from by omega]
def noneE (e : GExpr) : Bool := decide ((e.Nodes.length : Int) = 0)
section
variable {s : GStmt} (h1 : inR s.Table 1 3 = true) (h2 : (noneE s.Where || exprOK s.Where) = true)
include h1 h2
end
end Go.AM

namespace Go.AM
section
variable {ns : List GExprNode} {f : Nat} {j : Nat} {out : List GIns}
end
theorem exprOK_T {e : GExpr} (h : exprOK e = true) : (1 ≤ e.Nodes.length ∧ e.Nodes.length ≤ 40) ∧ (T e.Nodes ((e.Nodes.length : Int) - 1)).2.2 = true ∧ (T e.Nodes ((e.Nodes.length : Int) - 1)).1 = 0 := by
  cases h0 : inR (e.Nodes.length : Int) 1 40 with
  | false => rw [exprOK_0 h0] at h; cases h
  | true =>
    have := inR_iff.1 h0
    rw [exprOK_1 h0, T_of (by omega) (by omega)] at h
    simp only [Bool.and_eq_true, decide_eq_true_eq] at h
    exact ⟨by omega, h.1.1, h.1.2⟩
end Go.AM

namespace Go.AM
def vI (n : Int) : GValue := ⟨1, n, []⟩
structure RV (v : GValue) : Prop where
  k : v.Kind = 0 ∨ v.Kind = 1 ∨ v.Kind = 2
  z : v.Kind = 0 → v = .zero
  n : -1000000000 ≤ v.N ∧ v.N ≤ 1000000000
  t : v.Kind = 1 → v.T = []
  l : v.T.length ≤ 1048576
theorem RV.zero : RV .zero := ⟨.inl rfl, fun _ => rfl, by decide, fun h => rfl, Nat.zero_le _⟩
theorem RV.vI {n : Int} (h : -1000000000 ≤ n ∧ n ≤ 1000000000) : RV (vI n) := ⟨.inr (.inl rfl), fun h => absurd h (show ¬ (1 : Int) = 0 from by decide), h, fun _ => rfl, Nat.zero_le _⟩
theorem RV.of {v : GValue} (h : valueOK v = true) : RV v := by
  by_cases h0 : v.Kind = 0
  · rw [valueOK_0 h0] at h
    simp only [Bool.and_eq_true, decide_eq_true_eq] at h
    have : v = .zero := GValue.eq_iff.2 ⟨h0, h.1, h.2⟩
    rw [this]; exact .zero
  · by_cases h1 : v.Kind = 1
    · rw [valueOK_1 h1] at h
      simp only [Bool.and_eq_true, decide_eq_true_eq, inR_iff] at h
      exact ⟨.inr (.inl h1), fun h => absurd h h0, h.1, fun _ => h.2, by rw [h.2]; exact Nat.zero_le _⟩
    · rw [valueOK_2 h0 h1] at h
      simp only [Bool.and_eq_true, decide_eq_true_eq] at h
      obtain ⟨⟨h2, h3⟩, h4⟩ := h
      unfold isWord at h4
      simp only [Bool.and_eq_true, decide_eq_true_eq] at h4
      refine ⟨.inr (.inr h2), fun h => absurd h h0, ?_, fun h => absurd h h1, by omega⟩
      show -1000000000 ≤ v.N ∧ v.N ≤ 1000000000
      omega
structure RR (r : GRow) : Prop where
  i : 0 ≤ r.Id ∧ r.Id ≤ 1000
  n : RV r.N
  m : RV r.Name
theorem RR.of {r : GRow} (h : rowOK r = true) : RR r := by
  unfold rowOK at h
  simp only [Bool.and_eq_true, inR_iff] at h
  exact ⟨h.1.1.1.1, .of h.1.1.1.2, .of h.1.1.2⟩
theorem nodeW_V {rec : Int → W3} {i : Int} {x : GExprNode} (h : (nodeW rec i x).2.2 = true) : RV x.V ∧ (x.Op = 2 → 0 ≤ x.Column ∧ x.Column ≤ 2) := by
  unfold nodeW at h
  have hz : ∀ {v : GValue}, zeroV v = true → RV v := fun {v} hv => by
    unfold zeroV at hv
    simp only [Bool.and_eq_true, decide_eq_true_eq, and_true] at hv
    have : v = .zero := GValue.eq_iff.2 hv
    rw [this]; exact .zero
  split at h
  · rename_i h1
    simp only [Bool.and_eq_true] at h
    exact ⟨.of h.2, fun e => by omega⟩
  · split at h
    · simp only [Bool.and_eq_true] at h
      exact ⟨hz h.2, fun _ => inR_iff.1 h.1.2⟩
    · rename_i h2
      split at h
      · simp only [Bool.and_eq_true] at h
        exact ⟨hz h.2, fun e => absurd e h2⟩
      · split at h
        · split at h
          · cases h
          · simp only [Bool.and_eq_true] at h
            exact ⟨hz h.2, fun e => absurd e h2⟩
        · cases h
theorem T_V {ns : List GExprNode} {j : Nat} (hj : j < ns.length) (ht : (T ns (j : Int)).2.2 = true) : RV ns[j].V ∧ (ns[j].Op = 2 → 0 ≤ ns[j].Column ∧ ns[j].Column ≤ 2) := by
  rw [T_at hj] at ht
  exact nodeW_V ht
section
variable {ns : List GExprNode} {r : GRow} {f : Nat} {j : Nat}
end
section
variable {op a b n : Int}
end
end Go.AM

namespace Go.AM
section
variable {ns : List GExprNode} {f : Nat} {j : Nat} {b : Nat}
end
/-- A piece of code stands at a place. -/
def Seg (l : List GIns) (b : Nat) (c : List GIns) : Prop := ∃ pre post, l = pre ++ c ++ post ∧ pre.length = b
section
variable {l c c1 c2 : List GIns} {b : Nat} {x : GIns}
theorem Seg.app (h : Seg l b (c1 ++ c2)) : Seg l b c1 ∧ Seg l (b + c1.length) c2 := by
  obtain ⟨pre, post, e, hb⟩ := h
  exact ⟨⟨pre, c2 ++ post, by rw [e]; simp, hb⟩, ⟨pre ++ c1, post, by rw [e]; simp, by rw [List.length_append, hb]⟩⟩
theorem Seg.cons (h : Seg l b (x :: c)) : Seg l b [x] ∧ Seg l (b + 1) c := by
  have := Seg.app (c1 := [x]) (c2 := c) h
  simpa using this
theorem Seg.at (h : Seg l b [x]) : ∃ hb : b < l.length, l[b] = x := by
  obtain ⟨pre, post, e, hb⟩ := h
  have h2 : b < l.length := by rw [e, ← hb]; simp
  refine ⟨h2, ?_⟩
  have : l[b]? = some x := by rw [e, List.append_assoc, List.getElem?_append_right (by omega), hb, Nat.sub_self]; rfl
  rw [List.getElem?_eq_getElem h2] at this
  exact Option.some.inj this
theorem Seg.le (h : Seg l b c) : b + c.length ≤ l.length := by
  obtain ⟨pre, post, e, hb⟩ := h
  rw [e, ← hb]; simp
end
end Go.AM

namespace Go.AM
section
variable {s : Src} {out : List GExprNode} {d n : Nat}
end
theorem walkF_app {xs ys : List GExprNode} : ∀ {f : Nat} {i : Int}, i < xs.length → walkF (xs ++ ys) f i = walkF xs f i
  | 0, i, _ => rfl
  | f + 1, i, h => by
    rw [walkF, walkF]
    split
    · rfl
    · rename_i h0
      have e : (xs ++ ys)[i.toNat]? = xs[i.toNat]? := List.getElem?_append_left (by omega)
      rw [e]
      cases hx : xs[i.toNat]? with
      | none => rfl
      | some x =>
        dsimp only
        refine nodeW_congr (fun k hk => walkF_app (by omega)) (walkF_b (ns := xs ++ ys)).2.1 (by omega)
theorem T_app {xs ys : List GExprNode} {i : Int} (h : i < xs.length) : T (xs ++ ys) i = T xs i := walkF_app h
/-- The last node of a list heads a right part, from a place on, so deep at most. -/
def Wf (ns : List GExprNode) (a : Nat) (d : Nat) : Prop := ∃ dep : Int, 1 ≤ dep ∧ dep ≤ d ∧ T ns ((ns.length : Int) - 1) = ((a : Int), dep, true) ∧ a < ns.length
theorem last_at {ns : List GExprNode} {x : GExprNode} : T (ns ++ [x]) (((ns ++ [x]).length : Int) - 1) = nodeW (T (ns ++ [x])) (ns.length : Int) x := by
  have hj : ns.length < (ns ++ [x]).length := by simp
  rw [show (((ns ++ [x]).length : Int) - 1) = (ns.length : Int) from by simp, T_at hj]
  simp
theorem Wf.const {out : List GExprNode} {v : GValue} (hv : valueOK v = true) : Wf (out ++ [⟨1, 0, 0, 0, v⟩]) out.length 1 := by
  refine ⟨1, by omega, by omega, ?_, by simp⟩
  rw [last_at, nodeW_1 rfl]
  show ((out.length : Int), (1 : Int), ((decide ((0 : Int) = 0) && decide ((0 : Int) = 0)) && decide ((0 : Int) = 0)) && valueOK v) = _
  rw [hv]; rfl
theorem Wf.bin {ns ms : List GExprNode} {a d : Nat} {op : Int} (h : Wf ns a d) (hm : Wf ms ns.length d) (hp : ∃ e, ms = ns ++ e) (ho : 6 ≤ op ∧ op ≤ 13) : Wf (ms ++ [⟨op, (ns.length : Int) - 1, (ms.length : Int) - 1, 0, .zero⟩]) a (d + 1) := by
  obtain ⟨dep, h1, h2, h3, h4⟩ := h
  obtain ⟨dm, g1, g2, g3, g4⟩ := hm
  obtain ⟨e, rfl⟩ := hp
  have hr : inR op 3 5 = false := by
    cases hh : inR op 3 5 with
    | false => rfl
    | true => have := inR_iff.1 hh; omega
  have hmx := mxI_b (n := (d : Int)) (a := dep) (b := dm) ⟨by omega, h2⟩ ⟨by omega, g2⟩
  have hmx1 : 1 ≤ mxI dep dm := by unfold mxI; split <;> omega
  refine ⟨mxI dep dm + 1, by omega, by omega, ?_, by simp; omega⟩
  have e1 : T (ns ++ e ++ [⟨op, (ns.length : Int) - 1, ((ns ++ e).length : Int) - 1, 0, .zero⟩]) (((ns ++ e).length : Int) - 1) = (((ns.length : Nat) : Int), dm, true) := by rw [T_app (by omega)]; exact g3
  rw [last_at, nodeW_5 (show ¬ op = 1 from by omega) (show ¬ op = 2 from by omega) hr (inR_iff.2 ho) (by rw [e1]), e1]
  dsimp only
  have e2 : T (ns ++ e ++ [⟨op, (ns.length : Int) - 1, ((ns ++ e).length : Int) - 1, 0, .zero⟩]) ((ns.length : Int) - 1) = ((a : Int), dep, true) := by
    rw [List.append_assoc, T_app (by omega)]; exact h3
  rw [e2]
  dsimp only
  rw [decide_eq_true rfl, decide_eq_true rfl]; rfl
theorem Wf.mono {ns : List GExprNode} {a d d' : Nat} (h : Wf ns a d) (hd : d ≤ d') : Wf ns a d' := by
  obtain ⟨dep, h1, h2, h3, h4⟩ := h
  exact ⟨dep, h1, by omega, h3, h4⟩
theorem expr_ok_sz {e : GExpr} (h : exprOK e = true) : e.Nodes.length ≤ 1048576 ∧ ∀ x ∈ e.Nodes, x.V.T.length ≤ 1048576 := by
  obtain ⟨h1, h2, h3⟩ := exprOK_T h
  refine ⟨by omega, fun x hx => ?_⟩
  obtain ⟨k, hk, rfl⟩ := List.mem_iff_getElem.1 hx
  have ht := T_span (ns := e.Nodes) e.Nodes.length (e.Nodes.length - 1) (by omega) (by omega) (by rw [show ((e.Nodes.length - 1 : Nat) : Int) = (e.Nodes.length : Int) - 1 from by omega]; exact h2) k (by
    rw [show ((e.Nodes.length - 1 : Nat) : Int) = (e.Nodes.length : Int) - 1 from by omega, h3]; omega) (by omega)
  exact (T_V hk ht).1.l
end Go.AM

namespace Go.AM
section
variable {α : Type}
variable {lt : α → α → Bool} {x : α} {l : List α}
/-- None is ahead of the one in front of it. -/
def chain (lt : α → α → Bool) : List α → Prop
  | [] => True
  | [_] => True
  | a :: b :: r => lt b a = false ∧ chain lt (b :: r)
end
/-- Drawn rows. -/
structure RG (l : List GRow) (m : Int) : Prop where
  ln : (l.length : Int) ≤ m
  ok : ∀ r ∈ l, rowOK r = true
  up : ∀ i (h : i + 1 < l.length), l[i].Id < l[i + 1].Id
  id : ∀ r ∈ l, r.Id < m
theorem RG.app {l : List GRow} {m : Int} {r : GRow} (h : RG l m) (hr : rowOK r = true) (he : r.Id = m) : RG (l ++ [r]) (m + 1) := ⟨by simp; have := h.ln; omega, fun x hx => by
    rcases List.mem_append.1 hx with q | q
    · exact h.ok x q
    · rw [List.mem_singleton] at q; subst q; exact hr, fun i hi => by
    rw [List.length_append, List.length_singleton] at hi
    rcases Nat.lt_or_ge (i + 1) l.length with q | q
    · rw [List.getElem_append_left (by omega), List.getElem_append_left (by omega)]; exact h.up i q
    · have : i + 1 = l.length := by omega
      rw [List.getElem_append_left (by omega), List.getElem_append_right (by omega)]
      simp only [this, Nat.sub_self, List.getElem_singleton]
      have := h.id _ (List.getElem_mem (show i < l.length by omega)); omega, fun x hx => by
    rcases List.mem_append.1 hx with q | q
    · have := h.id x q; omega
    · rw [List.mem_singleton] at q; subst q; omega⟩
theorem RG.more {l : List GRow} {m : Int} (h : RG l m) : RG l (m + 1) := ⟨by have := h.ln; omega, h.ok, h.up, fun r hr => by have := h.id r hr; omega⟩
theorem RG.nil : RG [] 0 := ⟨by simp, fun _ h => (by cases h), fun i h => (by simp at h), fun _ h => (by cases h)⟩
end Go.AM

set_option linter.unusedVariables false
namespace Go.AM
structure GC {α : Type} (c : α → α → Int) : Prop where
  anti : ∀ a b, c a b = - c b a
  le : ∀ a b d, c a b ≤ 0 → c b d ≤ 0 → c a d ≤ 0
theorem GC.lt {α : Type} {c : α → α → Int} (h : GC c) {a b d : α} (h1 : c a b < 0) (h2 : c b d ≤ 0) : c a d < 0 := by
  rcases Int.lt_or_le (c a d) 0 with q | q
  · exact q
  · have h3 := h.anti a d
    have h4 := h.le b d a h2 (by omega)
    have h5 := h.anti a b
    omega
theorem GC.lt' {α : Type} {c : α → α → Int} (h : GC c) {a b d : α} (h1 : c a b ≤ 0) (h2 : c b d < 0) : c a d < 0 := by
  rcases Int.lt_or_le (c a d) 0 with q | q
  · exact q
  · have h3 := h.anti a d
    have h4 := h.le d a b (by omega) h1
    have h5 := h.anti b d
    omega
theorem GC.lex {α : Type} {c1 c2 : α → α → Int} (h1 : GC c1) (h2 : GC c2) : GC (fun a b => if c1 a b ≠ 0 then c1 a b else c2 a b) where
  anti := fun a b => by
    have e := h1.anti a b
    show (if c1 a b ≠ 0 then c1 a b else c2 a b) = - (if c1 b a ≠ 0 then c1 b a else c2 b a)
    split
    · rw [if_pos (by omega)]; exact e
    · rw [if_neg (by omega)]; exact h2.anti a b
  le := fun a b d p q => by
    revert p q
    show (if c1 a b ≠ 0 then c1 a b else c2 a b) ≤ 0 → (if c1 b d ≠ 0 then c1 b d else c2 b d) ≤ 0 → (if c1 a d ≠ 0 then c1 a d else c2 a d) ≤ 0
    intro p q
    split at p
    · split at q
      · have := h1.lt (a := a) (b := b) (d := d) (by omega) (by omega)
        rw [if_pos (by omega)]; omega
      · have := h1.lt (a := a) (b := b) (d := d) (by omega) (by omega)
        rw [if_pos (by omega)]; omega
    · split at q
      · have := h1.lt' (a := a) (b := b) (d := d) (by omega) (by omega)
        rw [if_pos (by omega)]; omega
      · have g1 := h1.le a b d (by omega) (by omega)
        have g2 := h1.le d b a (by have := h1.anti d b; omega) (by have := h1.anti b a; omega)
        have g3 := h1.anti a d
        rw [if_neg (by omega)]
        exact h2.le a b d p q
theorem GC.map {α β : Type} {c : α → α → Int} (f : β → α) (h : GC c) : GC (fun a b => c (f a) (f b)) := ⟨fun a b => h.anti _ _, fun a b d => h.le _ _ _⟩
def goodK (l : List GRow) (k : Nat) : Prop := ∀ i, i < k → rowOK (l.getD i .zero) = true ∧ (0 < i → (l.getD (i - 1) .zero).Id < (l.getD i .zero).Id)
instance {l : List GRow} {k : Nat} : Decidable (goodK l k) := by unfold goodK; exact inferInstance
end Go.AM

namespace Go.AM
/-- How deep the reference's digits go. -/
def dgM (f : Nat) (n : Int) : Prop := 0 < f ∧ f ≤ 18 ∧ (0 ≤ n → n < 10 ^ f) ∧ (n < 0 → 1 < f ∧ -n < 10 ^ (f - 1))
theorem dgM_neg {f : Nat} {n : Int} (h : dgM (f + 1) n) (hn : n < 0) : dgM f (-n) := by
  obtain ⟨h1, h2, h3, h4⟩ := h
  obtain ⟨h5, h6⟩ := h4 hn
  exact ⟨by omega, by omega, fun _ => h6, fun q => by omega⟩
theorem dgM_div {f : Nat} {n : Int} (h : dgM (f + 1) n) (hn : ¬ n < 10) : dgM f (n / 10) := by
  obtain ⟨h1, h2, h3, h4⟩ := h
  have h5 := h3 (by omega)
  rw [Int.pow_succ] at h5
  refine ⟨?_, by omega, fun _ => by omega, fun q => by omega⟩
  rcases Nat.eq_zero_or_pos f with rfl | q
  · simp at h5; omega
  · exact q
open Lib in
theorem itoa_neg {n : Int} (h : n < 0) : itoa n = 45 :: itoa (-n) := by
  unfold itoa
  rw [if_pos h, if_neg (by omega)]
  congr 2
  omega
open Lib in
theorem itoa_one {n : Int} (h0 : ¬ n < 0) (h : n < 10) : itoa n = [UInt8.ofNat (48 + n.toNat)] := by
  unfold itoa
  rw [if_neg h0]
  rw [decDigits, dif_pos (by omega)]
open Lib in
theorem itoa_more {n : Int} (h : ¬ n < 10) : itoa n = itoa (n / 10) ++ [UInt8.ofNat (48 + (n % 10).toNat)] := by
  unfold itoa
  rw [if_neg (by omega), if_neg (by omega)]
  conv => lhs; rw [decDigits]
  rw [dif_neg (by omega)]
  congr 3
  · omega
  · omega
open Lib in
theorem itoa_len {f : Nat} : ∀ {n : Int}, dgM f n → (itoa n).length ≤ f := by
  induction f with
  | zero => intro n h; exact absurd h.1 (by decide)
  | succ f ih =>
    intro n h
    by_cases h0 : n < 0
    · rw [itoa_neg h0, List.length_cons]
      have := ih (dgM_neg h h0); omega
    · by_cases h1 : n < 10
      · rw [itoa_one h0 h1]; simp
      · rw [itoa_more h1, List.length_append]
        have := ih (dgM_div h h1)
        simp; omega
/-- A value as a text. -/
def vtextF (v : GValue) : Str := if v.Kind = 0 then [110, 117, 108, 108] else if v.Kind = 1 then Lib.itoa v.N else (39 :: v.T) ++ [39]
theorem vtext_0 {v : GValue} (h : v.Kind = 0) : vtextF v = [110, 117, 108, 108] := by unfold vtextF; rw [if_pos h]
theorem vtext_1 {v : GValue} (h : v.Kind = 1) : vtextF v = Lib.itoa v.N := by unfold vtextF; rw [if_neg (by omega), if_pos h]
theorem vtext_2 {v : GValue} (h : ¬ v.Kind = 0) (h1 : ¬ v.Kind = 1) : vtextF v = (39 :: v.T) ++ [39] := by unfold vtextF; rw [if_neg h, if_neg h1]
end Go.AM

namespace Go.AM
theorem DRow_strs {w : World} {ok : Nat → Prop} {g : Nat} {c : Array Value} {ty : TypeId} {fr : Nat × Nat} (h : w.heap[g]? = some (.cells c ty fr)) : ∀ {ts : List Str} {o : Nat}, (∀ i t, ts[i]? = some t → c[o + i]? = some (.string ⟨t.toArray⟩)) → DRow w ok (ts.map D.str) g o
  | [], _, _ => by rw [List.map_nil, DRow]; trivial
  | t :: ts, o, hi => by
    rw [List.map_cons, DRow]
    refine ⟨⟨.string ⟨t.toArray⟩, ?_, by rw [DR]⟩, DRow_strs h (fun i u hu => by have := hi (i + 1) u (by simpa using hu); rwa [show o + (i + 1) = o + 1 + i from by omega] at this)⟩
    have := hi 0 t rfl
    unfold World.cell?
    simp only [h]
    simpa using this
section
variable {C : Cx} {st : St}
theorem q_iadrG {m g : Nat} {i : XA} {k : IntKind} {n : Int} {nm : String} {cs : Array Value} (ts : List Str) (hm : (nm, fun x => x = cs) ∈ gtab) (hgn : C.P.globalNamed nm = some g) (hcs : cs = (ts.map fun t => Value.string ⟨t.toArray⟩).toArray) (hi : evA st.sl i = some (.d (.int k n)))
    (h0 : 0 ≤ n) (hr : n < m) : QStep C st (.iadrA 1 m (.g g) i) (.d (.ip ((ts.drop n.toNat).map D.str))) := by
  intro op hf ac w β S
  obtain ⟨g1, g2, cs', ty, fr, rfl, g3⟩ := S.gok _ hm g hgn
  simp only [fits] at hf
  split at hf
  · rename_i t y j ho
    simp only [Bool.and_eq_true] at hf
    obtain ⟨⟨h1, h2⟩, h3⟩ := hf
    have h3 := AR_of_fitA S h3 hi
    rw [AR, DR] at h3
    have hy : y = .global g := by
      cases y with
      | global a => exact congrArg Operand.global (Nat.eq_of_beq_eq_true h2)
      | _ => cases h2
    split at h1
    · rename_i l el hu
      simp only [Bool.and_eq_true] at h1
      have := Nat.eq_of_beq_eq_true h1.1
      subst this
      have he : ac.eval y = .pointer (some ⟨g, 0, none⟩) := by rw [hy]; rfl
      refine ⟨.pointer (some ⟨g, 0 + n.toNat * 1, none⟩), ?_, fun w' _ => ?_⟩
      · rw [AR, DR]
        refine ⟨g, _, rfl, .inr ⟨⟨g1, g2⟩, ?_⟩⟩
        refine DRow_strs g3 (fun q t hq => ?_)
        rw [hcs]
        rw [List.getElem?_drop] at hq
        simp only [List.getElem?_toArray, List.getElem?_map]
        rw [show 0 + n.toNat * 1 + q = n.toNat + q from by omega, hq]; rfl
      · simp [execOp, ho, he, h3, Instr.indexAt, asIntOf, run_underlying hu, Instr.sureAddr, h0, hr, szIs_some h1.2, add_spot]
    · cases h1
  · cases hf
end
end Go.AM

namespace Go.AM
section
variable {C : Cx} {st : St}
theorem q_mkbf {f : Nat} {bs : List XA} {vs : List AV} (h : evL st.sl bs = some vs) : QStep C st (.mkbf f bs) (.bfn f vs) := by
  intro op hf ac w β S
  simp only [fits] at hf
  split at hf
  · rename_i g first cs ho
    simp only [Bool.and_eq_true] at hf
    obtain ⟨⟨h1, h2⟩, h3⟩ := hf
    have h4 := AL_of_fits S h3 h
    have h1 := Nat.eq_of_beq_eq_true h1
    subst h1
    have h2 : cs = #[] := by simpa using h2
    subst h2
    refine ⟨.func (.func f) (first.map ac.eval) #[], ?_, fun w' _ => ?_⟩
    · rw [AR]; exact ⟨_, rfl, by simpa using h4⟩
    · simp [execOp, ho, Instr.makeFunc]
  · cases hf
theorem fitK_nili {v : Value} (h : fitK v .nili = true) : v = .nilIface := by
  cases v <;> first | rfl | (simp [fitK] at h; done)
theorem fitA_nili {o : Operand} (h : fitA o (.k .nili) = true) : o = .const .nilIface := by
  cases o with
  | const v => exact congrArg _ (fitK_nili h)
  | _ => simp [fitA] at h
theorem run_eqi {P : Program} {w : World} {t : TypeId} {op : BinOp} {neg : Bool} (h : ∃ ms, P.underlying t = some (.interface ms)) (ho : op = if neg then BinOp.neq else BinOp.eql) {v : Value} {b : Bool} (hv : (v = .nilIface ∧ b = true) ∨ ((∃ te pe, v = .iface te pe) ∧ b = false)) :
    (binOp op t v .nilIface).run P w = .ok (.bool (bif neg then !b else b)) w := by
  obtain ⟨ms, h⟩ := h
  have e : ∀ d, (Op.equalIn (d + 1) t v .nilIface).run P w = .ok b w := by
    intro d
    rcases hv with ⟨rfl, rfl⟩ | ⟨⟨te, pe, rfl⟩, rfl⟩ <;> simp [Op.equalIn, run_underlying h]
  subst ho
  rcases hv with ⟨rfl, rfl⟩ | ⟨⟨te, pe, rfl⟩, rfl⟩ <;> cases neg <;> simp [binOp, Op.equal, Op.maxDepth, e 9999]
theorem q_eqi {neg : Bool} {x : XA} {v : Value} {b : Bool} (hx : evA st.sl x = some (.raw v)) (hv : (v = .nilIface ∧ b = true) ∨ ((∃ te pe, v = .iface te pe) ∧ b = false)) : QStep C st (.eqi neg x) (.d (.bool (bif neg then !b else b))) := by
  intro o hf a w β S
  simp only [fits] at hf
  split at hf
  · rename_i op' t p z t' hop
    simp only [Bool.and_eq_true, decide_eq_true_eq] at hf
    obtain ⟨⟨⟨h1, h2⟩, h3⟩, h4⟩ := hf
    have h3 := AR_of_fitA S h3 hx
    rw [AR] at h3
    have h5 := h4
    have h4 : AR C.X β w (.raw .nilIface) (a.eval z) := AR_of_fitA S h4 rfl
    rw [AR] at h4
    have hu : ∃ ms, C.P.underlying t = some (.interface ms) := by
      revert h2
      cases C.P.underlying t with
      | none => intro h; cases h
      | some k => cases k <;> intro h <;> first | (cases h; done) | exact ⟨_, rfl⟩
    refine ⟨_, by rw [AR, DR], fun w' _ => ?_⟩
    have e := run_eqi (w := w') hu h1 hv
    have hz := fitA_nili h5
    have g : (eqGuard op' t p z v .nilIface).run C.P w' = .ok () w' := by
      rw [hz]
      unfold eqGuard
      rcases hv with ⟨rfl, _⟩ | ⟨⟨te, pe, rfl⟩, _⟩ <;> split <;> simp
    simp [execOp, hop, h3, h4, e, g]
  · cases hf
theorem q_slcG {n g : Nat} {nm : String} {cs : Array Value} (ts : List Str) (hm : (nm, fun x => x = cs) ∈ gtab) (hgn : C.P.globalNamed nm = some g) (hcs : cs = (ts.map fun t => Value.string ⟨t.toArray⟩).toArray) (hn : ts.length = n) :
    QStep C st (.slcA 1 n (.g g)) (.d (.sl 1 (ts.map strRow))) := by
  intro op hf ac w β S
  obtain ⟨g1, g2, cs', ty, fr, rfl, g3⟩ := S.gok _ hm g hgn
  simp only [fits] at hf
  split at hf
  · rename_i t y l h m ho
    simp only [Bool.and_eq_true, Option.isNone_iff_eq_none] at hf
    obtain ⟨⟨⟨⟨h1, h2⟩, rfl⟩, rfl⟩, rfl⟩ := hf
    have hy : y = .global g := by
      cases y with
      | global a => exact congrArg Operand.global (Nat.eq_of_beq_eq_true h2)
      | _ => cases h2
    split at h1
    · rename_i q e hu
      simp only [Bool.and_eq_true] at h1
      have := Nat.eq_of_beq_eq_true h1.1
      subst this
      have he : ac.eval y = .pointer (some ⟨g, 0, none⟩) := by rw [hy]; rfl
      refine ⟨.slice (some ⟨g, 0, none⟩) q q, ?_, fun w' _ => ?_⟩
      · rw [AR, DR]
        refine ⟨_, q, by rw [List.length_map, hn], by rw [List.length_map, hn]; exact Nat.le_refl _, ?_⟩
        cases ts with
        | nil => exact .inl rfl
        | cons t0 ts0 =>
          refine .inr ⟨g, 0, rfl, ⟨g1, g2⟩, (Array.getElem?_eq_some_iff.1 g3).1, ?_⟩
          have : ∀ (l : List Str) (o : Nat), (∀ i t, l[i]? = some t → cs'[o + i]? = some (.string ⟨t.toArray⟩)) → DRows w (okf C.X β) 1 (l.map strRow) g o := by
            intro l
            induction l with
            | nil => intro o _; rw [List.map_nil, DRows]; trivial
            | cons t l ih =>
              intro o hi
              rw [List.map_cons, DRows]
              refine ⟨rfl, ?_, ih (o + 1) (fun i u hu => by have := hi (i + 1) u (by simpa using hu); rwa [show o + (i + 1) = o + 1 + i from by omega] at this)⟩
              exact DRow_strs (ts := [t]) g3 (fun i u hu => by
                cases i with
                | zero => exact hi 0 u (by simpa using hu)
                | succ i => simp at hu)
          refine this _ 0 (fun i t ht => ?_)
          rw [hcs]
          simp only [Nat.zero_add, List.getElem?_toArray, List.getElem?_map, ht]; rfl
      · have hsz := h1.2
        simp [execOp, ho, he, Instr.sliceAt, Instr.sliceBounds, Instr.sureAddr, run_underlying hu, szIs_some hsz]
        first | done | (by_cases h0 : q = 0 <;> simp [h0, Addr.add])
    · cases h1
  · cases hf
theorem ax_callb {gs : List Gd} {K : St → Prop} {d : Option Nat} {x : XA} {f : Nat} {args : List XA} {its : List XI} {vs bs : List AV} (hx : evA st.sl x = some (.bfn f bs)) (hb : hasBody C.P f = true) (ha : evL st.sl args = some vs)
    (h : VCall C st f (bs ++ vs) (fun r st' => AXI C false gs its (putR d r st') K)) :
    AXI C false gs (.callv d x args :: its) st K := by
  intro ops W R lo i k hf rest a w S G H
  obtain ⟨Q, hW⟩ := R.eff rfl
  subst hW
  obtain ⟨m, h1, h2, h3, h4⟩ := fitIs_cons hf
  obtain ⟨o, y, as, ts, ho, hop, hg, hd, hfr, hy, hfx, rfl⟩ := callv_fit h1
  rw [range_split (by omega) h4, range_one, List.append_assoc, List.singleton_append]
  refine wpOps_cons ho (wanted_of hg G) ?_
  obtain ⟨β, S⟩ := S
  have hA := AL_of_fits S hfx ha
  have hF := AR_of_fitA S hy hx
  rw [AR] at hF
  obtain ⟨cv, hF, hC⟩ := hF
  have hrun : (execOp a.eval o).run C.P w = .ok (.enter f (cv ++ as.map a.eval)) w := by
    simp [execOp, hop, resolve, hF, Deferred.ofValue, invoke, callFunc_run hb]
  unfold Oper.wp
  rw [hrun, Oper.upon_enter]
  have hA2 : ∀ {xs ys : List AV} {us vs : List Value}, AL C.X β w xs us → AL C.X β w ys vs → AL C.X β w (xs ++ ys) (us ++ vs) := by
    intro xs
    induction xs with
    | nil => intro ys us vs h1 h2; rw [AL] at h1; subst h1; exact h2
    | cons x xs ih =>
      intro ys us vs h1 h2
      rw [AL] at h1
      obtain ⟨v, r, rfl, h3, h4⟩ := h1
      rw [List.cons_append, List.cons_append, AL]
      exact ⟨v, _, rfl, h3, ih h4 h2⟩
  have e1 : cv ++ as.map a.eval = (cv.toList ++ as.toList.map a.eval).toArray := by simp
  rw [e1]
  refine (h a w β _ S (hA2 hC hA)).mono ?_
  rintro e w' ⟨v, r, st', β', rfl, hK, S', hv⟩
  rw [hd]
  exact hK ops _ R lo (i + 1) k h2 rest _ w' ⟨β', S'.putR (dstFree_lt hfr) hv⟩ (G.put hfr) (fun st' a' w' _ => H st' a' w' (fun h => by cases h))
end
end Go.AM

namespace Go.AM
def colsL : List Str := [[105, 100], [110], [110, 97, 109, 101]]
def sgnsL : List Str := [[43], [45], [42], [47], [61], [60], [97, 110, 100], [111, 114]]
theorem gtab_cols : ("loop.example/g00332/impl.columnWords", fun x : Array Value => x = (colsL.map fun t => Value.string ⟨t.toArray⟩).toArray) ∈ gtab := List.mem_cons_of_mem _ List.mem_cons_self
theorem gtab_sgns : ("loop.example/g00332/impl.binarySigns", fun x : Array Value => x = (sgnsL.map fun t => Value.string ⟨t.toArray⟩).toArray) ∈ gtab := List.mem_cons_of_mem _ (List.mem_cons_of_mem _ List.mem_cons_self)
def sgnT (op : Int) : Str := sgnsL.getD (op - 6).toNat []
theorem drop_getD {l : List Str} {k : Nat} (h : k < l.length) : (l.drop k).map D.str = .str (l.getD k []) :: ((l.drop (k + 1)).map D.str) := by
  rw [List.drop_eq_getElem_cons h, List.map_cons, List.getD_eq_getElem?_getD, List.getElem?_eq_getElem h]; rfl
theorem sgn_drop {op : Int} (h : 6 ≤ op ∧ op ≤ 13) : (sgnsL.drop (op - 6).toNat).map D.str = .str (sgnT op) :: ((sgnsL.drop ((op - 6).toNat + 1)).map D.str) := drop_getD (by show (op - 6).toNat < 8; omega)
section
variable {ns : List GExprNode} {f j : Nat}
end
theorem exprOK_n {e : GExpr} (h : exprOK e = true) : 1 ≤ e.Nodes.length ∧ e.Nodes.length ≤ 40 := by
  cases hr : inR (e.Nodes.length : Int) 1 40 with
  | false => rw [exprOK_0 hr] at h; cases h
  | true => have := inR_iff.1 hr; omega
end Go.AM

namespace Go.AM
structure PS where
  tk : List Str
  ns : List GExprNode
  op : Nat
def okT (t : Str) : Prop := 1 ≤ t.length ∧ t.length ≤ 18 ∧ (t.head? = some 39 → 2 ≤ t.length)
structure PS.ok (s : PS) : Prop where
  t : ∀ t ∈ s.tk, okT t
  n : s.tk.length ≤ 500
  m : s.ns.length ≤ 40
  o : s.op ≤ 48
def nd (o a b : Int) : GExprNode := ⟨o, a, b, 0, GValue.zero⟩
def isP (tk ts : List Str) : Bool := decide (ts.length ≤ tk.length) && decide (tk.take ts.length = ts)
def dpP (s : PS) (n : Nat) : PS := ⟨s.tk.drop n, s.ns, s.op⟩
def skP (s : PS) (ts : List Str) : PS := if isP s.tk ts = true then dpP s ts.length else s
def ndP (s : PS) (n : GExprNode) : Option (PS × Int) := if s.ns.length < 40 then some (⟨s.tk, s.ns ++ [n], s.op⟩, (s.ns.length : Int)) else none
def rdF (t : Str) : Int × Bool := match Lib.atoi t with
  | some n => (n, decide (Lib.itoa n = t))
  | none => (0, false)
def dgP : List Str → Int × Bool
  | [] => (0, false)
  | t :: _ => ((rdF t).1, (rdF t).2 && inR (rdF t).1 (-1000000000) 1000000000)
def wiP (R : PS → Option (PS × Int)) (s : PS) : Option (PS × Int) :=
  if s.op < 48 then (match R ⟨s.tk, s.ns, s.op + 1⟩ with
    | some (s', k) => some (⟨s'.tk, s'.ns, s'.op - 1⟩, k)
    | none => none) else none
def pkL : List Int → Int × PS → Int × PS
  | [], a => a
  | o :: r, a => pkL r (if a.1 = 0 ∧ isP a.2.tk [sgnT o] = true then (o, dpP a.2 1) else a)
def joL (R : PS → Option (PS × Int)) (ops : List Int) : Nat → PS → Int → Option (PS × Int)
  | 0, _, _ => none
  | f + 1, s, l => if (pkL ops (0, s)).1 = 0 then some ((pkL ops (0, s)).2, l) else match R (pkL ops (0, s)).2 with
    | none => none
    | some (s2, r) => match ndP s2 (nd (pkL ops (0, s)).1 l r) with
      | none => none
      | some (s3, k) => joL R ops f s3 k
def joP (R : PS → Option (PS × Int)) (ops : List Int) (f : Nat) (s : PS) : Option (PS × Int) := match R s with
  | none => none
  | some (s1, l) => joL R ops f s1 l
def noP (N C : PS → Option (PS × Int)) (s : PS) : Option (PS × Int) :=
  if isP s.tk [[110, 111, 116]] = true then (match wiP N (dpP s 1) with
    | none => none
    | some (s1, k) => ndP s1 (nd 3 k 0)) else C s
def cmP (S : PS → Option (PS × Int)) (s : PS) : Option (PS × Int) := match S s with
  | none => none
  | some (s1, l) =>
    if isP s1.tk [[61]] = true then (match S (dpP s1 1) with
      | none => none
      | some (s2, r) => ndP s2 (nd 10 l r))
    else if isP s1.tk [[60]] = true then (match S (dpP s1 1) with
      | none => none
      | some (s2, r) => ndP s2 (nd 11 l r))
    else if isP s1.tk [[105, 115], [110, 117, 108, 108]] = true then ndP (dpP s1 2) (nd 4 l 0)
    else some (s1, l)
def ahP (A Q : PS → Option (PS × Int)) (s : PS) : Option (PS × Int) :=
  if isP s.tk [[45]] = true then
    (if (dgP (dpP s 1).tk).2 = true ∧ ¬ (dgP (dpP s 1).tk).1 = 0 then ndP (dpP (dpP s 1) 1) ⟨1, 0, 0, 0, vI (-(dgP (dpP s 1).tk).1)⟩
    else match wiP A (dpP s 1) with
      | none => none
      | some (s1, k) => ndP s1 (nd 5 k 0))
  else Q s
/-- A value, if the next token is one; and whether it is. -/
def vaP (s : PS) : (GValue × Bool) × PS :=
  if (dgP s.tk).2 = true then ((vI (dgP s.tk).1, true), dpP s 1)
  else if isP s.tk [[110, 117, 108, 108]] = true then ((GValue.zero, true), dpP s 1)
  else match s.tk with
    | [] => ((GValue.zero, false), s)
    | t :: _ => if t.head? = some 39 ∧ valueOK ⟨2, 0, (t.drop 1).take (t.length - 2)⟩ = true then ((⟨2, 0, (t.drop 1).take (t.length - 2)⟩, true), dpP s 1) else ((GValue.zero, false), s)
def colP (t : Str) : Int := if t = [105, 100] then 0 else if t = [110] then 1 else if t = [110, 97, 109, 101] then 2 else -1
theorem colP_idx (t : Str) : idxOf (fun s => eqb t s) colsL 0 = colP t := by
  have e : ∀ s : Str, eqb t s = decide (t = s) := fun s => by
    rw [Bool.eq_iff_iff, eqb_iff]; simp
  simp only [colsL, idxOf, e]
  unfold colP
  by_cases h1 : t = [105, 100]
  · simp [h1]
  by_cases h2 : t = [110]
  · simp [h2]
  by_cases h3 : t = [110, 97, 109, 101]
  · simp [h3]
  · simp [h1, h2, h3]
def prP (O : PS → Option (PS × Int)) (s : PS) : Option (PS × Int) :=
  if isP s.tk [[40]] = true then (match wiP O (dpP s 1) with
    | none => none
    | some (s1, k) => if isP s1.tk [[41]] = true then some (dpP s1 1, k) else none)
  else if (vaP s).1.2 = true then ndP (vaP s).2 ⟨1, 0, 0, 0, (vaP s).1.1⟩
  else match s.tk with
    | [] => none
    | t :: _ => if colP t < 0 then none else ndP (dpP s 1) ⟨2, 0, 0, colP t, GValue.zero⟩
/-- Reading from a level on: 0 or, 1 and, 2 not, 3 compare, 4 sum, 5 product, 6 ahead, 7 primary. -/
def prs : Nat → Nat → PS → Option (PS × Int)
  | 0, _, _ => none
  | f + 1, 0, s => joP (prs f 1) [13] f s
  | f + 1, 1, s => joP (prs f 2) [12] f s
  | f + 1, 2, s => noP (prs f 2) (prs f 3) s
  | f + 1, 3, s => cmP (prs f 4) s
  | f + 1, 4, s => joP (prs f 5) [6, 7] f s
  | f + 1, 5, s => joP (prs f 6) [8, 9] f s
  | f + 1, 6, s => ahP (prs f 6) (prs f 7) s
  | f + 1, 7, s => prP (prs f 0) s
  | _ + 1, _ + 8, _ => none
theorem sR_take {α : Type} {row : α → List D} {l : List α} {a : Int} {n : Nat} (h : a.toNat = n) : AV.d (.sl 1 (((l.map row).drop (0 : Int).toNat).take (a.toNat - (0 : Int).toNat))) = .d (.sl 1 ((l.take n).map row)) := by
  rw [h]; simp [List.map_take]
theorem sR_drop {α : Type} {row : α → List D} {l : List α} {a : Int} {n : Nat} (h : a.toNat = n) : AV.d (.sl 1 (((l.map row).drop a.toNat).take (((l.map row).length : Int).toNat - a.toNat))) = .d (.sl 1 ((l.drop n).map row)) := by
  rw [h, Int.toNat_natCast, List.take_of_length_le (by simp), List.map_drop]
theorem int_ge_dec {a b : Nat} : decide ((a : Int) ≥ (b : Int)) = decide (b ≤ a) := by
  by_cases h : b ≤ a
  · rw [decide_eq_true h, decide_eq_true (by omega)]
  · rw [decide_eq_false h, decide_eq_false (by omega)]
theorem eqto_step {xs ys : List Str} {k : Nat} (hx : k < xs.length) (hy : k < ys.length) (hb : ∀ i, i < k → xs[i]? = ys[i]?) (h : xs[k] = ys[k]) : ∀ i, i < k + 1 → xs[i]? = ys[i]? := fun i hi => by
  rcases (by omega : i < k ∨ i = k) with h1 | rfl
  · exact hb i h1
  · rw [List.getElem?_eq_getElem hx, List.getElem?_eq_getElem hy, h]
theorem eqto_end {xs ys : List Str} {k : Nat} (hl : xs.length = ys.length) (hk : k = xs.length) (hb : ∀ i, i < k → xs[i]? = ys[i]?) : xs = ys := by
  refine List.ext_getElem? fun i => ?_
  by_cases hi : i < k
  · exact hb i hi
  · rw [List.getElem?_eq_none (by omega), List.getElem?_eq_none (by omega)]
theorem eqn_step {xs ys : List GExprNode} {k : Nat} (hx : k < xs.length) (hy : k < ys.length) (hb : ∀ i, i < k → xs[i]? = ys[i]?) (h : xs[k] = ys[k]) : ∀ i, i < k + 1 → xs[i]? = ys[i]? := fun i hi => by
  rcases (by omega : i < k ∨ i = k) with h1 | rfl
  · exact hb i h1
  · rw [List.getElem?_eq_getElem hx, List.getElem?_eq_getElem hy, h]
theorem eqn_end {xs ys : List GExprNode} {k : Nat} (hl : xs.length = ys.length) (hk : k = xs.length) (hb : ∀ i, i < k → xs[i]? = ys[i]?) : xs = ys := by
  refine List.ext_getElem? fun i => ?_
  by_cases hi : i < k
  · exact hb i hi
  · rw [List.getElem?_eq_none (by omega), List.getElem?_eq_none (by omega)]
theorem eqn_no {xs ys : List GExprNode} {k : Nat} (hx : k < xs.length) (hy : k < ys.length) (e : xs = ys) (h : ¬ eqb xs[k] ys[k] = true) : False := by
  subst e; exact h (eqb_iff.2 rfl)
theorem isP_le {tk ts : List Str} (h : isP tk ts = true) : ts.length ≤ tk.length := by
  unfold isP at h
  rw [Bool.and_eq_true] at h
  exact of_decide_eq_true h.1
theorem skP_t {s : PS} {ts : List Str} (h : isP s.tk ts = true) : skP s ts = dpP s ts.length := by unfold skP; rw [if_pos h]
theorem skP_f {s : PS} {ts : List Str} (h : isP s.tk ts = false) : skP s ts = s := by unfold skP; rw [if_neg (by rw [h]; decide)]
theorem ndP_some {s s' : PS} {n : GExprNode} {k : Int} (h : ndP s n = some (s', k)) : s.ns.length < 40 ∧ s' = ⟨s.tk, s.ns ++ [n], s.op⟩ ∧ k = (s.ns.length : Int) := by
  unfold ndP at h
  split at h
  · rename_i hn
    cases h
    exact ⟨hn, rfl, rfl⟩
  · cases h
theorem PS.ok.dp {s : PS} (h : s.ok) (n : Nat) : (dpP s n).ok := ⟨fun t ht => h.t t (List.mem_of_mem_drop ht), by
  show (s.tk.drop n).length ≤ 500
  rw [List.length_drop]; have := h.n; omega, h.m, h.o⟩
theorem PS.ok.nd {s s' : PS} {n : GExprNode} {k : Int} (h : s.ok) (hn : ndP s n = some (s', k)) : s'.ok := by
  obtain ⟨h1, rfl, _⟩ := ndP_some hn
  exact ⟨h.t, h.n, by show (s.ns ++ [n]).length ≤ 40; simp; omega, h.o⟩
end Go.AM
namespace Go.AM
/-- A reader: what a function does that reads from the parser's state. -/
def RC (P : Program) (F : Nat) (R : PS → Option (PS × Int)) : Prop := ∀ (s s' : PS) (k : Int), s.ok → R s = some (s', k) →
  Con P (fun e => Nat.beq e 1001) F [.ptr 1000 0] [(1000, .box [.d (.sl 1 (s.tk.map strRow)), .osl 1001 7 0 s.ns.length, int (s.op : Int)]), (1001, .rows 7 (s.ns.map GExprNode.row))]
    (fun r h => r = int k ∧ h = [(1000, .box [.d (.sl 1 (s'.tk.map strRow)), .osl 1001 7 0 s'.ns.length, int (s'.op : Int)]), (1001, .rows 7 (s'.ns.map GExprNode.row))])
def RO (R : PS → Option (PS × Int)) : Prop := ∀ (s s' : PS) (k : Int), s.ok → R s = some (s', k) → s'.ok ∧ s'.op = s.op
theorem wiP_some {R : PS → Option (PS × Int)} {s s' : PS} {k : Int} (h : wiP R s = some (s', k)) : s.op < 48 ∧ ∃ s1, R ⟨s.tk, s.ns, s.op + 1⟩ = some (s1, k) ∧ s' = ⟨s1.tk, s1.ns, s1.op - 1⟩ := by
  unfold wiP at h
  split at h
  · rename_i ho
    split at h
    · rename_i s1 k1 h1
      cases h
      exact ⟨ho, s1, h1, rfl⟩
    · cases h
  · cases h
theorem RO.wi {R : PS → Option (PS × Int)} (hR : RO R) : RO (wiP R) := by
  intro s s' k hs h
  obtain ⟨ho, s1, h1, rfl⟩ := wiP_some h
  obtain ⟨h2, h3⟩ := hR ⟨s.tk, s.ns, s.op + 1⟩ s1 k ⟨hs.t, hs.n, hs.m, ho⟩ h1
  have h3 : s1.op = s.op + 1 := h3
  exact ⟨⟨h2.t, h2.n, h2.m, by show s1.op - 1 ≤ 48; omega⟩, by show s1.op - 1 = s.op; omega⟩
theorem ndP_op {s s' : PS} {n : GExprNode} {k : Int} (h : ndP s n = some (s', k)) : s'.op = s.op := by
  obtain ⟨_, rfl, _⟩ := ndP_some h; rfl
theorem pkL_ok : ∀ {ops : List Int} {a : Int × PS}, a.2.ok → (pkL ops a).2.ok ∧ (pkL ops a).2.op = a.2.op
  | [], a, h => ⟨h, rfl⟩
  | o :: r, a, h => by
    rw [pkL]
    split
    · exact pkL_ok (ops := r) (a := (o, dpP a.2 1)) (h.dp 1)
    · exact pkL_ok h
theorem pkL_step {ops : List Int} {j : Nat} {a : Int} {q : PS} (hj : j < ops.length) : pkL (ops.drop j) (a, q) = pkL (ops.drop (j + 1)) (if a = 0 ∧ isP q.tk [sgnT ops[j]] = true then (ops[j], dpP q 1) else (a, q)) := by
  rw [List.drop_eq_getElem_cons hj, pkL]
theorem pkL_hit {ops : List Int} {j : Nat} {a : Int} {q c : PS} (hj : j < ops.length) (h : pkL (ops.drop j) (a, q) = pkL ops (0, c)) (ha : a = 0) (hi : isP q.tk [sgnT ops[j]] = true) : pkL (ops.drop (j + 1)) (ops[j], dpP q 1) = pkL ops (0, c) := by
  rw [pkL_step hj, if_pos ⟨ha, hi⟩] at h; exact h
theorem pkL_miss {ops : List Int} {j : Nat} {a : Int} {q c : PS} (hj : j < ops.length) (h : pkL (ops.drop j) (a, q) = pkL ops (0, c)) (hi : ¬ (a = 0 ∧ isP q.tk [sgnT ops[j]] = true)) : pkL (ops.drop (j + 1)) (a, q) = pkL ops (0, c) := by
  rw [pkL_step hj, if_neg hi] at h; exact h
theorem pkL_end {ops : List Int} {j : Nat} {a : Int} {q c : PS} (hj : j = ops.length) (h : pkL (ops.drop j) (a, q) = pkL ops (0, c)) : pkL ops (0, c) = (a, q) := by
  rw [hj, List.drop_length, pkL] at h; exact h.symm
section
variable {R : PS → Option (PS × Int)} {ops : List Int}
theorem joP_some {f : Nat} {s s' : PS} {k : Int} (h : joP R ops f s = some (s', k)) : ∃ s1 l, R s = some (s1, l) ∧ joL R ops f s1 l = some (s', k) := by
  unfold joP at h
  split at h
  · cases h
  · rename_i s1 l h1; exact ⟨s1, l, h1, h⟩
theorem joL_pos {f : Nat} {s s' : PS} {l k : Int} (h : joL R ops f s l = some (s', k)) : ∃ g, f = g + 1 := by
  cases f with
  | zero => cases h
  | succ g => exact ⟨g, rfl⟩
theorem joL_stop {f : Nat} {s s' q : PS} {l k a : Int} (h : joL R ops (f + 1) s l = some (s', k)) (hp : pkL ops (0, s) = (a, q)) (ha : a = 0) : q = s' ∧ l = k := by
  rw [joL, hp] at h
  simp only [ha, if_true, Option.some.injEq, Prod.mk.injEq] at h
  exact h
theorem joL_more {f : Nat} {s s' q : PS} {l k a : Int} (h : joL R ops (f + 1) s l = some (s', k)) (hp : pkL ops (0, s) = (a, q)) (ha : ¬ a = 0) : ∃ s2 r s3 k3, R q = some (s2, r) ∧ ndP s2 (nd a l r) = some (s3, k3) ∧ joL R ops f s3 k3 = some (s', k) := by
  rw [joL, hp] at h
  simp only [ha, if_false] at h
  split at h
  · cases h
  · rename_i s2 r h2
    split at h
    · cases h
    · rename_i s3 k3 h3
      exact ⟨s2, r, s3, k3, h2, h3, h⟩
theorem RO.joL (hR : RO R) : ∀ {f : Nat} {s s' : PS} {l k : Int}, s.ok → joL R ops f s l = some (s', k) → s'.ok ∧ s'.op = s.op
  | 0, _, _, _, _, _, h => by cases h
  | f + 1, s, s', l, k, hs, h => by
    have hq := pkL_ok (ops := ops) (a := (0, s)) hs
    by_cases ha : (pkL ops (0, s)).1 = 0
    · obtain ⟨h1, _⟩ := joL_stop h rfl ha
      rw [← h1]; exact hq
    · obtain ⟨s2, r, s3, k3, h1, h2, h3⟩ := joL_more h rfl ha
      obtain ⟨g1, g2⟩ := hR _ _ _ hq.1 h1
      obtain ⟨g3, g4⟩ := RO.joL hR (g1.nd h2) h3
      exact ⟨g3, by rw [g4, ndP_op h2, g2, hq.2]⟩
theorem RO.jo (hR : RO R) {f : Nat} : RO (joP R ops f) := by
  intro s s' k hs h
  obtain ⟨s1, l, h1, h2⟩ := joP_some h
  obtain ⟨g1, g2⟩ := hR _ _ _ hs h1
  obtain ⟨g3, g4⟩ := hR.joL g1 h2
  exact ⟨g3, g4.trans g2⟩
end
section
variable {N C S A Q O : PS → Option (PS × Int)} {s s' : PS} {k : Int}
theorem noP_t (h : noP N C s = some (s', k)) (hi : isP s.tk [[110, 111, 116]] = true) : ∃ s1 l, wiP N (dpP s 1) = some (s1, l) ∧ ndP s1 (nd 3 l 0) = some (s', k) := by
  unfold noP at h
  rw [if_pos hi] at h
  split at h
  · cases h
  · rename_i s1 l h1; exact ⟨s1, l, h1, h⟩
theorem noP_f (h : noP N C s = some (s', k)) (hi : isP s.tk [[110, 111, 116]] = false) : C s = some (s', k) := by
  unfold noP at h
  rwa [if_neg (by rw [hi]; decide)] at h
theorem RO.no (hN : RO N) (hC : RO C) : RO (noP N C) := by
  intro s s' k hs h
  cases hi : isP s.tk [[110, 111, 116]] with
  | true =>
    obtain ⟨s1, l, h1, h2⟩ := noP_t h hi
    obtain ⟨g1, g2⟩ := hN.wi _ _ _ (hs.dp 1) h1
    exact ⟨g1.nd h2, (ndP_op h2).trans g2⟩
  | false => exact hC _ _ _ hs (noP_f h hi)
theorem cmP_some (h : cmP S s = some (s', k)) : ∃ s1 l, S s = some (s1, l) ∧
    (if isP s1.tk [[61]] = true then (match S (dpP s1 1) with
      | none => none
      | some (s2, r) => ndP s2 (nd 10 l r))
    else if isP s1.tk [[60]] = true then (match S (dpP s1 1) with
      | none => none
      | some (s2, r) => ndP s2 (nd 11 l r))
    else if isP s1.tk [[105, 115], [110, 117, 108, 108]] = true then ndP (dpP s1 2) (nd 4 l 0)
    else some (s1, l)) = some (s', k) := by
  unfold cmP at h
  split at h
  · cases h
  · rename_i s1 l h1; exact ⟨s1, l, h1, h⟩
theorem cm_two {o l : Int} {s1 : PS} (h : (match S (dpP s1 1) with
      | none => none
      | some (s2, r) => ndP s2 (nd o l r)) = some (s', k)) : ∃ s2 r, S (dpP s1 1) = some (s2, r) ∧ ndP s2 (nd o l r) = some (s', k) := by
  split at h
  · cases h
  · rename_i s2 r h1; exact ⟨s2, r, h1, h⟩
theorem RO.cm (hS : RO S) : RO (cmP S) := by
  intro s s' k hs h
  obtain ⟨s1, l, h1, h2⟩ := cmP_some h
  obtain ⟨g1, g2⟩ := hS _ _ _ hs h1
  split at h2
  · obtain ⟨s2, r, h3, h4⟩ := cm_two h2
    obtain ⟨g3, g4⟩ := hS _ _ _ (g1.dp 1) h3
    exact ⟨g3.nd h4, by rw [ndP_op h4, g4]; exact g2⟩
  · split at h2
    · obtain ⟨s2, r, h3, h4⟩ := cm_two h2
      obtain ⟨g3, g4⟩ := hS _ _ _ (g1.dp 1) h3
      exact ⟨g3.nd h4, by rw [ndP_op h4, g4]; exact g2⟩
    · split at h2
      · exact ⟨(g1.dp 2).nd h2, by rw [ndP_op h2]; exact g2⟩
      · cases h2; exact ⟨g1, g2⟩
theorem ahP_f (h : ahP A Q s = some (s', k)) (hi : isP s.tk [[45]] = false) : Q s = some (s', k) := by
  unfold ahP at h
  rwa [if_neg (by rw [hi]; decide)] at h
theorem ahP_n (h : ahP A Q s = some (s', k)) (hi : isP s.tk [[45]] = true) (hd : (dgP (dpP s 1).tk).2 = true ∧ ¬ (dgP (dpP s 1).tk).1 = 0) : ndP (dpP (dpP s 1) 1) ⟨1, 0, 0, 0, vI (-(dgP (dpP s 1).tk).1)⟩ = some (s', k) := by
  unfold ahP at h
  rwa [if_pos hi, if_pos hd] at h
theorem ahP_w (h : ahP A Q s = some (s', k)) (hi : isP s.tk [[45]] = true) (hd : ¬ ((dgP (dpP s 1).tk).2 = true ∧ ¬ (dgP (dpP s 1).tk).1 = 0)) : ∃ s1 l, wiP A (dpP s 1) = some (s1, l) ∧ ndP s1 (nd 5 l 0) = some (s', k) := by
  unfold ahP at h
  rw [if_pos hi, if_neg hd] at h
  split at h
  · cases h
  · rename_i s1 l h1; exact ⟨s1, l, h1, h⟩
theorem RO.ah (hA : RO A) (hQ : RO Q) : RO (ahP A Q) := by
  intro s s' k hs h
  cases hi : isP s.tk [[45]] with
  | false => exact hQ _ _ _ hs (ahP_f h hi)
  | true =>
    by_cases hd : (dgP (dpP s 1).tk).2 = true ∧ ¬ (dgP (dpP s 1).tk).1 = 0
    · have h2 := ahP_n h hi hd
      exact ⟨((hs.dp 1).dp 1).nd h2, by rw [ndP_op h2]; rfl⟩
    · obtain ⟨s1, l, h1, h2⟩ := ahP_w h hi hd
      obtain ⟨g1, g2⟩ := hA.wi _ _ _ (hs.dp 1) h1
      exact ⟨g1.nd h2, (ndP_op h2).trans g2⟩
theorem vaP_ok (hs : s.ok) : (vaP s).2.ok ∧ (vaP s).2.op = s.op := by
  unfold vaP
  split
  · exact ⟨hs.dp 1, rfl⟩
  · split
    · exact ⟨hs.dp 1, rfl⟩
    · split
      · exact ⟨hs, rfl⟩
      · split
        · exact ⟨hs.dp 1, rfl⟩
        · exact ⟨hs, rfl⟩
theorem prP_b (h : prP O s = some (s', k)) (hi : isP s.tk [[40]] = true) : ∃ s1, wiP O (dpP s 1) = some (s1, k) ∧ isP s1.tk [[41]] = true ∧ s' = dpP s1 1 := by
  unfold prP at h
  rw [if_pos hi] at h
  split at h
  · cases h
  · rename_i s1 l h1
    split at h
    · rename_i h2; cases h; exact ⟨s1, h1, h2, rfl⟩
    · cases h
theorem prP_v (h : prP O s = some (s', k)) (hi : isP s.tk [[40]] = false) (hv : (vaP s).1.2 = true) : ndP (vaP s).2 ⟨1, 0, 0, 0, (vaP s).1.1⟩ = some (s', k) := by
  unfold prP at h
  rwa [if_neg (by rw [hi]; decide), if_pos hv] at h
theorem prP_c (h : prP O s = some (s', k)) (hi : isP s.tk [[40]] = false) (hv : (vaP s).1.2 = false) : ∃ t r, s.tk = t :: r ∧ 0 ≤ colP t ∧ ndP (dpP s 1) ⟨2, 0, 0, colP t, GValue.zero⟩ = some (s', k) := by
  unfold prP at h
  rw [if_neg (by rw [hi]; decide), if_neg (by rw [hv]; decide)] at h
  split at h
  · cases h
  · rename_i t r ht
    split at h
    · cases h
    · exact ⟨t, r, ht, by omega, h⟩
theorem vaP_no (hv : (vaP s).1.2 = false) : (vaP s).2 = s := by
  unfold vaP at hv ⊢
  split
  · rename_i h1; rw [if_pos h1] at hv; cases hv
  · rename_i h1
    rw [if_neg h1] at hv
    split
    · rename_i h2; rw [if_pos h2] at hv; cases hv
    · rename_i h2
      rw [if_neg h2] at hv
      split
      · rfl
      · rename_i t r ht
        split
        · rename_i h3
          rw [ht] at hv
          simp only [h3, and_self, if_true] at hv
          cases hv
        · rfl
theorem RO.pr (hO : RO O) : RO (prP O) := by
  intro s s' k hs h
  cases hi : isP s.tk [[40]] with
  | true =>
    obtain ⟨s1, h1, _, rfl⟩ := prP_b h hi
    obtain ⟨g1, g2⟩ := hO.wi _ _ _ (hs.dp 1) h1
    exact ⟨g1.dp 1, g2⟩
  | false =>
    cases hv : (vaP s).1.2 with
    | true =>
      have h2 := prP_v h hi hv
      obtain ⟨g1, g2⟩ := vaP_ok hs
      exact ⟨g1.nd h2, (ndP_op h2).trans g2⟩
    | false =>
      obtain ⟨t, r, _, _, h2⟩ := prP_c h hi hv
      exact ⟨(hs.dp 1).nd h2, by rw [ndP_op h2]; rfl⟩
end
theorem prs_ro : ∀ (f l : Nat), RO (prs f l)
  | 0, _ => fun _ _ _ _ h => by cases h
  | f + 1, 0 => (prs_ro f 1).jo
  | f + 1, 1 => (prs_ro f 2).jo
  | f + 1, 2 => (prs_ro f 2).no (prs_ro f 3)
  | f + 1, 3 => (prs_ro f 4).cm
  | f + 1, 4 => (prs_ro f 5).jo
  | f + 1, 5 => (prs_ro f 6).jo
  | f + 1, 6 => (prs_ro f 6).ah (prs_ro f 7)
  | f + 1, 7 => (prs_ro f 0).pr
  | _ + 1, _ + 8 => fun _ _ _ _ h => by cases h
end Go.AM
namespace Go.AM
theorem decFrom_bd : ∀ {l : List UInt8} {acc n : Nat}, Lib.decFrom acc l = some n → n < (acc + 1) * 10 ^ l.length
  | [], acc, n, h => by
    simp only [Lib.decFrom, Option.some.injEq] at h
    subst h; simp
  | b :: r, acc, n, h => by
    rw [Lib.decFrom] at h
    split at h
    · rename_i d hd
      have hd9 : d ≤ 9 := by
        unfold Lib.digitVal at hd
        split at hd
        · rename_i hb; cases hd; omega
        · cases hd
      have h2 := decFrom_bd h
      have h3 : (acc * 10 + d + 1) * 10 ^ r.length ≤ ((acc + 1) * 10) * 10 ^ r.length := Nat.mul_le_mul_right _ (by omega)
      rw [List.length_cons, Nat.pow_succ, Nat.mul_comm (10 ^ r.length) 10, ← Nat.mul_assoc]
      omega
    · cases h
theorem decNat_bd {l : List UInt8} {n : Nat} (hl : l.length ≤ 18) (h : Lib.decNat l = some n) : n < 1000000000000000000 := by
  unfold Lib.decNat at h
  split at h
  · cases h
  · have h1 := decFrom_bd h
    have h2 : (10 : Nat) ^ l.length ≤ 10 ^ 18 := Nat.pow_le_pow_right (by decide) hl
    omega
theorem atoi_bd {t : Str} (hl : t.length ≤ 18) : -1000000000000000000 < (Lib.atoi t).getD 0 ∧ (Lib.atoi t).getD 0 < 1000000000000000000 := by
  cases h : Lib.atoi t with
  | none => exact ⟨by decide, by decide⟩
  | some n =>
    rw [Option.getD_some]
    cases t with
    | nil => cases h
    | cons b r =>
      have hr : r.length ≤ 18 := by have : (b :: r).length = r.length + 1 := rfl; omega
      simp only [Lib.atoi] at h
      split at h
      · cases hd : Lib.decNat r with
        | none => rw [hd] at h; cases h
        | some m => rw [hd] at h; cases h; dsimp only; have := decNat_bd hr hd; omega
      · split at h
        · cases hd : Lib.decNat r with
          | none => rw [hd] at h; cases h
          | some m => rw [hd] at h; cases h; dsimp only; have := decNat_bd hr hd; omega
        · cases hd : Lib.decNat (b :: r) with
          | none => rw [hd] at h; cases h
          | some m => rw [hd] at h; cases h; dsimp only; have := decNat_bd hl hd; omega
theorem rdF_1 {t : Str} : (Lib.atoi t).getD 0 = (rdF t).1 := by
  unfold rdF
  cases Lib.atoi t <;> rfl
theorem rdF_2 {t : Str} : ((Lib.atoi t).isSome && decide (Lib.itoa ((Lib.atoi t).getD 0) = t)) = (rdF t).2 := by
  unfold rdF
  cases Lib.atoi t <;> simp
theorem p18 : ((10 : Int) ^ 18) = 1000000000000000000 := by decide
theorem itoa_len18 {n : Int} (h : -1000000000000000000 < n ∧ n < 1000000000000000000) : (Lib.itoa n).length ≤ 1000 := by
  by_cases h0 : 0 ≤ n
  · have := itoa_len (f := 18) (n := n) ⟨by decide, by decide, fun _ => (by rw [p18]; omega), fun h => by omega⟩
    omega
  · rw [itoa_neg (by omega)]
    have := itoa_len (f := 18) (n := -n) ⟨by decide, by decide, fun _ => (by rw [p18]; omega), fun h => by omega⟩
    rw [List.length_cons]; omega
theorem dgP_cons {t : Str} {r : List Str} : dgP (t :: r) = ((rdF t).1, (rdF t).2 && inR (rdF t).1 (-1000000000) 1000000000) := rfl
def trimM (t : Str) : Str := if t.take 1 = [45] then t.drop 1 else t
theorem trimM_le {t : Str} : (trimM t).length ≤ t.length := by
  unfold trimM
  split
  · rw [List.length_drop]; omega
  · exact Nat.le_refl _
theorem sT_take {l : Str} {a : Int} {n : Nat} (h : a.toNat = n) : AV.d (.str ((l.drop (0 : Int).toNat).take (a.toNat - (0 : Int).toNat))) = .d (.str (l.take n)) := by
  rw [h]; simp
theorem sT_drop {l : Str} {a : Int} {n : Nat} (h : a.toNat = n) : AV.d (.str ((l.drop a.toNat).take ((l.length : Int).toNat - a.toNat))) = .d (.str (l.drop n)) := by
  rw [h, Int.toNat_natCast, List.take_of_length_le (by simp)]
theorem sT_mid {l : Str} {a b : Int} {n m : Nat} (h : a.toNat = n) (h2 : b.toNat - n = m) : AV.d (.str ((l.drop a.toNat).take (b.toNat - a.toNat))) = .d (.str ((l.drop n).take m)) := by
  rw [h, h2]
theorem take1_len {t : Str} (h : t.take 1 = [45]) : 1 ≤ t.length := by
  cases t with
  | nil => cases h
  | cons a r => rw [List.length_cons]; omega
theorem hasp_eq {t : Str} : (decide ((t.length : Int) ≥ ((([45] : Str).length : Nat) : Int)) && decide (t.take 1 = [45])) = decide (t.take 1 = [45]) := by
  by_cases h : t.take 1 = [45]
  · have := take1_len h
    rw [decide_eq_true h, decide_eq_true (by show (t.length : Int) ≥ 1; omega)]; rfl
  · rw [decide_eq_false h, Bool.and_false]
theorem eqi_of {v : Value} {b : Bool} (h : (v = .nilIface ∧ b = true) ∨ ((∃ te pe, v = .iface te pe) ∧ b = false)) : (v = .nilIface ∧ b = true) ∨ ((∃ te pe, v = .iface te pe) ∧ b = false) := h
theorem dg_cons {tk : List Str} (h : (dgP tk).2 = true) : ∃ t r, tk = t :: r := by
  cases tk with
  | nil => cases h
  | cons t r => exact ⟨t, r, rfl⟩
theorem hd_row {tk : List Str} (h : 0 < tk.length) : (tk.map strRow)[0]? = some (strRow (tk.headD [])) := by
  cases tk with
  | nil => cases h
  | cons t r => rfl
theorem hd_mem {tk : List Str} (h : 0 < tk.length) : tk.headD [] ∈ tk := by
  cases tk with
  | nil => cases h
  | cons t r => exact List.mem_cons_self
theorem dg_bd {tk : List Str} (h : (dgP tk).2 = true) : -1000000000 ≤ (dgP tk).1 ∧ (dgP tk).1 ≤ 1000000000 := by
  cases tk with
  | nil => cases h
  | cons t r =>
    rw [dgP_cons] at h ⊢
    rw [Bool.and_eq_true] at h
    exact inR_iff.1 h.2
theorem hd_get {l : Str} (h : 0 < l.length) : AV.d (.int .u8 (l[0].toNat : Int)) = .d (.int .u8 ((l.headD 0).toNat : Int)) := by
  cases l with
  | nil => cases h
  | cons a r => rfl
theorem hd_39 {t : Str} (h : 0 < t.length) : ((t.headD 0).toNat : Int) = 39 ↔ t.head? = some 39 := by
  cases t with
  | nil => cases h
  | cons a r =>
    show ((a.toNat : Int) = 39) ↔ (some a = some 39)
    constructor
    · intro h
      have : a.toNat = 39 := by omega
      rw [show a = 39 from UInt8.toNat_inj.1 this]
    · intro h
      cases h; rfl
section
variable {s : PS}
theorem vaP_1 (h : (dgP s.tk).2 = true) : vaP s = ((vI (dgP s.tk).1, true), dpP s 1) := by unfold vaP; rw [if_pos h]
theorem vaP_2 (h : (dgP s.tk).2 = false) (h1 : isP s.tk [[110, 117, 108, 108]] = true) : vaP s = ((GValue.zero, true), dpP s 1) := by unfold vaP; rw [if_neg (by rw [h]; decide), if_pos h1]
theorem vaP_3 {t : Str} {r : List Str} (h : (dgP s.tk).2 = false) (h1 : isP s.tk [[110, 117, 108, 108]] = false) (ht : s.tk = t :: r) (hq : t.head? = some 39) (hv : valueOK ⟨2, 0, (t.drop 1).take (t.length - 2)⟩ = true) : vaP s = ((⟨2, 0, (t.drop 1).take (t.length - 2)⟩, true), dpP s 1) := by
  unfold vaP; rw [if_neg (by rw [h]; decide), if_neg (by rw [h1]; decide), ht]; simp only [hq, hv, and_self, if_true]
theorem vaP_4 {t : Str} {r : List Str} (h : (dgP s.tk).2 = false) (h1 : isP s.tk [[110, 117, 108, 108]] = false) (ht : s.tk = t :: r) (hv : valueOK ⟨2, 0, (t.drop 1).take (t.length - 2)⟩ = false) : vaP s = ((GValue.zero, false), s) := by
  unfold vaP; rw [if_neg (by rw [h]; decide), if_neg (by rw [h1]; decide), ht]; simp only [hv, Bool.false_eq_true, and_false, if_false]
theorem vaP_5 (hs : s.ok) (h : (dgP s.tk).2 = false) (h1 : isP s.tk [[110, 117, 108, 108]] = false) (h2 : ¬ (s.tk.length : Int) > 0 ∨ ¬ (((s.tk.headD []).headD 0).toNat : Int) = 39) : vaP s = ((GValue.zero, false), s) := by
  unfold vaP; rw [if_neg (by rw [h]; decide), if_neg (by rw [h1]; decide)]
  split
  · rfl
  · rename_i t r ht
    have okt := hs.t t (by rw [ht]; exact List.mem_cons_self)
    rcases h2 with h2 | h2
    · rw [ht] at h2; simp at h2
    · rw [ht] at h2
      have h2 : ¬ ((t.headD 0).toNat : Int) = 39 := h2
      rw [if_neg (fun e => h2 ((hd_39 okt.1).2 e.1))]
end
end Go.AM

namespace Go.AM
def letB (b : UInt8) : Bool := inR (b.toNat : Int) 97 122
def digB (b : UInt8) : Bool := decide (48 ≤ b.toNat) && decide (b.toNat ≤ 57)
def wordB (b : UInt8) : Bool := letB b || digB b
def wn (p : UInt8 → Bool) : Str → Nat
  | [] => 0
  | b :: r => if p b = true then wn p r + 1 else 0
def sgB (c : UInt8) : Bool := (((((((decide (c = 40) || decide (c = 41)) || decide (c = 43)) || decide (c = 45)) || decide (c = 42)) || decide (c = 47)) || decide (c = 61)) || decide (c = 60)) || decide (c = 44)
def tokF : Str → Nat
  | [] => 0
  | c :: r => if letB c = true then wn wordB r + 1 else if digB c = true then wn digB r + 1
    else if c = 39 then (if r[wn letB r]? = some 39 then wn letB r + 2 else 0) else if sgB c = true then 1 else 0
def lexF : Nat → Str → Option (List Str)
  | 0, _ => none
  | _ + 1, [] => some []
  | f + 1, c :: r => if c = 32 then lexF f r else if tokF (c :: r) = 0 then none else match lexF f ((c :: r).drop (tokF (c :: r))) with
    | none => none
    | some ts => some ((c :: r).take (tokF (c :: r)) :: ts)
theorem wn_le {p : UInt8 → Bool} : ∀ {l : Str}, wn p l ≤ l.length
  | [] => Nat.le_refl _
  | b :: r => by
    rw [wn, List.length_cons]
    split
    · have := wn_le (p := p) (l := r); omega
    · omega
theorem tokF_le {t : Str} : tokF t ≤ t.length := by
  cases t with
  | nil => exact Nat.le_refl _
  | cons c r =>
    have h1 := wn_le (p := wordB) (l := r)
    have h2 := wn_le (p := digB) (l := r)
    have h3 := wn_le (p := letB) (l := r)
    rw [tokF, List.length_cons]
    split
    · omega
    · split
      · omega
      · split
        · split
          · rename_i hq
            have := (List.getElem?_eq_some_iff.1 hq).1
            omega
          · omega
        · split <;> omega
section
variable {p : UInt8 → Bool} {t : Str} {m : Nat}
theorem wn_yes (hm : m < t.length) (h : p (t.getD m 0) = true) : wn p (t.drop m) = wn p (t.drop (m + 1)) + 1 := by
  have e : t.getD m 0 = t[m] := by simp [hm]
  rw [List.drop_eq_getElem_cons hm, wn, if_pos (by rw [← e]; exact h)]
theorem wn_no (h : ¬ m < t.length ∨ p (t.getD m 0) = false) : wn p (t.drop m) = 0 := by
  by_cases hm : m < t.length
  · have e : t.getD m 0 = t[m] := by simp [hm]
    have h := h.resolve_left (fun g => g hm)
    rw [List.drop_eq_getElem_cons hm, wn, if_neg (by rw [← e, h]; decide)]
  · rw [List.drop_of_length_le (by omega)]; rfl
theorem wn_noI (h : ¬ (m : Int) < (t.length : Int) ∨ p (t.getD m 0) = false) : wn p (t.drop m) = 0 := wn_no (h.imp (fun g e => g (by omega)) id)
theorem wn_noW (h : ¬ (m : Int) < (t.length : Int) ∨ (letB (t.getD m 0) = false ∧ digB (t.getD m 0) = false)) : wn wordB (t.drop m) = 0 := wn_no (h.imp (fun g e => g (by omega)) (fun g => by unfold wordB; rw [Bool.or_eq_false_iff]; exact g))
theorem word_yes {b : UInt8} (h : letB b = true ∨ digB b = true) : wordB b = true := by unfold wordB; rw [Bool.or_eq_true]; exact h
theorem getD_get (hm : m < t.length) : AV.d (.int .u8 (t[m].toNat : Int)) = .d (.int .u8 ((t.getD m 0).toNat : Int)) := by
  have e : t.getD m 0 = t[m] := by simp [hm]
  rw [e]
theorem digB_eq {b : UInt8} : (decide ((b.toNat : Int) ≥ 48) && decide ((b.toNat : Int) ≤ 57)) = digB b := by
  unfold digB
  congr 1
  · exact decide_eq_decide.2 (by omega)
  · exact decide_eq_decide.2 (by omega)
theorem u8_int {b : UInt8} {n : Nat} (hn : n < 256) : ((b.toNat : Int) = (n : Int)) ↔ b = UInt8.ofNat n := by
  constructor
  · intro h
    exact UInt8.toNat_inj.1 (by rw [UInt8.toNat_ofNat']; omega)
  · intro h
    rw [h, UInt8.toNat_ofNat']; omega
theorem u8_dec {b : UInt8} {n : Nat} (hn : n < 256) : decide ((b.toNat : Int) = (n : Int)) = decide (b = UInt8.ofNat n) := decide_eq_decide.2 (u8_int hn)
theorem idxB (c : UInt8) : decide (0 ≤ Lib.indexByte [40, 41, 43, 45, 42, 47, 61, 60, 44] c) = sgB c := by
  have h : ∀ n : Fin 256, decide (0 ≤ Lib.indexByte [40, 41, 43, 45, 42, 47, 61, 60, 44] (UInt8.ofNat n.1)) = sgB (UInt8.ofNat n.1) := by decide +kernel
  have := h ⟨c.toNat, UInt8.toNat_lt c⟩
  rwa [UInt8.ofNat_toNat] at this
end
section
variable {c : UInt8} {r : Str}
theorem tok_1 (h : letB c = true) : tokF (c :: r) = wn wordB r + 1 := by rw [tokF, if_pos h]
theorem tok_2 (h0 : letB c = false) (h : digB c = true) : tokF (c :: r) = wn digB r + 1 := by rw [tokF, if_neg (by rw [h0]; decide), if_pos h]
theorem tok_3 (h0 : letB c = false) (h1 : digB c = false) (h : c = 39) (hq : r[wn letB r]? = some 39) : tokF (c :: r) = wn letB r + 2 := by
  rw [tokF, if_neg (by rw [h0]; decide), if_neg (by rw [h1]; decide), if_pos h, if_pos hq]
theorem tok_4 (h0 : letB c = false) (h1 : digB c = false) (h : c = 39) (hq : ¬ r[wn letB r]? = some 39) : tokF (c :: r) = 0 := by
  rw [tokF, if_neg (by rw [h0]; decide), if_neg (by rw [h1]; decide), if_pos h, if_neg hq]
theorem tok_5 (h0 : letB c = false) (h1 : digB c = false) (h : ¬ c = 39) (hq : sgB c = true) : tokF (c :: r) = 1 := by
  rw [tokF, if_neg (by rw [h0]; decide), if_neg (by rw [h1]; decide), if_neg h, if_pos hq]
theorem tok_6 (h0 : letB c = false) (h1 : digB c = false) (h : ¬ c = 39) (hq : sgB c = false) : tokF (c :: r) = 0 := by
  rw [tokF, if_neg (by rw [h0]; decide), if_neg (by rw [h1]; decide), if_neg h, if_neg (by rw [hq]; decide)]
end
section
variable {f : Nat} {c : UInt8} {r : Str} {ts : List Str}
theorem lexF_pos {t : Str} (h : lexF f t = some ts) : ∃ g, f = g + 1 := by
  cases f with
  | zero => cases h
  | succ g => exact ⟨g, rfl⟩
theorem lexF_sp (h : lexF (f + 1) (c :: r) = some ts) (hc : c = 32) : lexF f r = some ts := by
  rwa [lexF, if_pos hc] at h
theorem lexF_tok (h : lexF (f + 1) (c :: r) = some ts) (hc : ¬ c = 32) : ¬ tokF (c :: r) = 0 ∧ ∃ ts', lexF f ((c :: r).drop (tokF (c :: r))) = some ts' ∧ ts = (c :: r).take (tokF (c :: r)) :: ts' := by
  rw [lexF, if_neg hc] at h
  split at h
  · cases h
  · rename_i h0
    split at h
    · cases h
    · rename_i ts' h1
      cases h
      exact ⟨h0, ts', h1, rfl⟩
theorem lexF_nil (h : lexF (f + 1) [] = some ts) : ts = [] := by
  rw [lexF] at h; cases h; rfl
end
theorem q39_get {t : Str} {c : UInt8} {r : Str} {m : Nat} (ht : t = c :: r) (hm : m = wn letB r + 1) : r[wn letB r]? = if m < t.length then some (t.getD m 0) else none := by
  subst hm ht
  by_cases h : wn letB r < r.length
  · rw [if_pos (by rw [List.length_cons]; omega), List.getElem?_eq_getElem h]; simp [h]
  · rw [if_neg (by rw [List.length_cons]; omega), List.getElem?_eq_none (by omega)]
theorem q39_no {t : Str} {c : UInt8} {r : Str} {m : Nat} (ht : t = c :: r) (hm : m = wn letB r + 1) (h : (m : Int) = (t.length : Int) ∨ ¬ ((t.getD m 0).toNat : Int) = 39) : ¬ r[wn letB r]? = some 39 := by
  rw [q39_get ht hm]
  intro e
  split at e
  · rename_i hl
    rcases h with h | h
    · omega
    · cases e.symm ▸ (rfl : some (t.getD m 0) = some (t.getD m 0))
      have e := Option.some.inj e
      exact h (by rw [e]; rfl)
  · cases e
theorem q39_yes {t : Str} {c : UInt8} {r : Str} {m : Nat} (ht : t = c :: r) (hm : m = wn letB r + 1) (hl : m < t.length) (h : ((t.getD m 0).toNat : Int) = 39) : r[wn letB r]? = some 39 := by
  rw [q39_get ht hm, if_pos hl]
  exact congrArg some ((u8_int (n := 39) (by decide)).1 h)
end Go.AM
namespace Go.AM
/-- The text reads as the expression. -/
def PEok (t : Str) (e : GExpr) : Prop := t.length ≤ 65536 ∧ ∃ (toks : List Str) (f : Nat) (k : Int), lexF (t.length + 1) t = some toks ∧ toks.length ≤ 500 ∧ (∀ x ∈ toks, okT x) ∧
  prs f 0 ⟨toks, [], 0⟩ = some (⟨[], e.Nodes, 0⟩, k) ∧ depthF e.Nodes ≤ 12 ∧ (∀ x ∈ e.Nodes, x.V.T.length ≤ 1048576) ∧ e.Nodes.length ≤ 40
theorem drop_hd {t : Str} {i : Nat} (hi : i < t.length) : t.drop i = t.getD i 0 :: t.drop (i + 1) := by
  rw [List.drop_eq_getElem_cons hi]; simp [hi]
theorem q39s {t : Str} {i m : Nat} (hm : m = wn letB (t.drop (i + 1)) + (i + 1)) : (t.drop (i + 1))[wn letB (t.drop (i + 1))]? = if m < t.length then some (t.getD m 0) else none := by
  rw [List.getElem?_drop, show i + 1 + wn letB (t.drop (i + 1)) = m by omega]
  split
  · rename_i h; rw [List.getElem?_eq_getElem h]; simp [h]
  · rw [List.getElem?_eq_none (by omega)]
theorem q39s_no {t : Str} {i m : Nat} (hm : m = wn letB (t.drop (i + 1)) + (i + 1)) (h : (m : Int) = (t.length : Int) ∨ ¬ ((t.getD m 0).toNat : Int) = 39) : ¬ (t.drop (i + 1))[wn letB (t.drop (i + 1))]? = some 39 := by
  rw [q39s hm]
  intro e
  split at e
  · rename_i hl
    rcases h with h | h
    · omega
    · have e := Option.some.inj e
      exact h (by rw [e]; rfl)
  · cases e
theorem q39s_yes {t : Str} {i m : Nat} (hm : m = wn letB (t.drop (i + 1)) + (i + 1)) (hl : m < t.length) (h : ((t.getD m 0).toNat : Int) = 39) : (t.drop (i + 1))[wn letB (t.drop (i + 1))]? = some 39 := by
  rw [q39s hm, if_pos hl]
  exact congrArg some ((u8_int (n := 39) (by decide)).1 h)
theorem sgB_eq {c : UInt8} : ((((((((decide ((c.toNat : Int) = 40) || decide ((c.toNat : Int) = 41)) || decide ((c.toNat : Int) = 43)) || decide ((c.toNat : Int) = 45)) || decide ((c.toNat : Int) = 42)) || decide ((c.toNat : Int) = 47)) || decide ((c.toNat : Int) = 61)) || decide ((c.toNat : Int) = 60)) || decide ((c.toNat : Int) = 44)) = sgB c := by
  unfold sgB
  rw [show decide ((c.toNat : Int) = 40) = decide (c = 40) from u8_dec (n := 40) (by decide), show decide ((c.toNat : Int) = 41) = decide (c = 41) from u8_dec (n := 41) (by decide), show decide ((c.toNat : Int) = 43) = decide (c = 43) from u8_dec (n := 43) (by decide),
    show decide ((c.toNat : Int) = 45) = decide (c = 45) from u8_dec (n := 45) (by decide), show decide ((c.toNat : Int) = 42) = decide (c = 42) from u8_dec (n := 42) (by decide), show decide ((c.toNat : Int) = 47) = decide (c = 47) from u8_dec (n := 47) (by decide),
    show decide ((c.toNat : Int) = 61) = decide (c = 61) from u8_dec (n := 61) (by decide), show decide ((c.toNat : Int) = 60) = decide (c = 60) from u8_dec (n := 60) (by decide), show decide ((c.toNat : Int) = 44) = decide (c = 44) from u8_dec (n := 44) (by decide)]
end Go.AM

namespace Go.AM
open Go.Lib (decDigits)
theorem dd_small {u : Nat} (h : u < 10) : decDigits u = [UInt8.ofNat (48 + u)] := by rw [decDigits, dif_pos h]
theorem dd_big {u : Nat} (h : ¬ u < 10) : decDigits u = decDigits (u / 10) ++ [UInt8.ofNat (48 + u % 10)] := by rw [decDigits, dif_neg h]
theorem dig_nat {d : Nat} (h : d < 10) : (UInt8.ofNat (48 + d)).toNat = 48 + d := by rw [UInt8.toNat_ofNat']; omega
theorem dig_digB {d : Nat} (h : d < 10) : digB (UInt8.ofNat (48 + d)) = true := by unfold digB; rw [dig_nat h]; simp; omega
theorem dd_all : ∀ (u : Nat), ∀ b ∈ decDigits u, digB b = true := by
  intro u
  induction u using Nat.strongRecOn with
  | ind u ih =>
    intro b hb
    by_cases h : u < 10
    · rw [dd_small h, List.mem_singleton] at hb
      rw [hb]; exact dig_digB h
    · rw [dd_big h, List.mem_append, List.mem_singleton] at hb
      rcases hb with hb | hb
      · exact ih (u / 10) (by omega) b hb
      · rw [hb]; exact dig_digB (Nat.mod_lt _ (by decide))
theorem dd_ne (u : Nat) : decDigits u ≠ [] := by
  by_cases h : u < 10
  · rw [dd_small h]; simp
  · rw [dd_big h]; simp
theorem itoa_nn {n : Int} (h : 0 ≤ n) : Lib.itoa n = decDigits n.toNat := by unfold Lib.itoa; rw [if_neg (by omega)]
def tkV (v : GValue) : List Str := if v.Kind = 0 then [[110, 117, 108, 108]] else if v.Kind = 1 then (if v.N < 0 then [[45], decDigits v.N.natAbs] else [decDigits v.N.toNat]) else [(39 :: v.T) ++ [39]]
section
variable {ns : List GExprNode} {f j : Nat}
end
end Go.AM
namespace Go.AM
open Go.Lib (decDigits)
def LexR (t : Str) (ts : List Str) : Prop := ∃ f, lexF f t = some ts
def bdr (r : Str) : Prop := ∀ c, r.head? = some c → wordB c = false
theorem LexR.nil : LexR [] [] := ⟨1, rfl⟩
theorem LexR.sp {r : Str} {ts : List Str} (h : LexR r ts) : LexR (32 :: r) ts := by
  obtain ⟨f, h⟩ := h
  exact ⟨f + 1, by rw [lexF, if_pos rfl]; exact h⟩
theorem LexR.tok {c : UInt8} {r t rest : Str} {rs : List Str} (hc : ¬ c = 32) (ht : c :: r = t ++ rest) (hn : tokF (c :: r) = t.length) (h0 : t ≠ []) (h : LexR rest rs) : LexR (c :: r) (t :: rs) := by
  obtain ⟨f, h⟩ := h
  refine ⟨f + 1, ?_⟩
  have hl : 0 < t.length := List.length_pos_iff.2 h0
  rw [lexF, if_neg hc, if_neg (by omega), hn]
  rw [show (c :: r).drop t.length = rest from by rw [ht, List.drop_left], h, show (c :: r).take t.length = t from by rw [ht, List.take_left]]
theorem LexR.sign {c : UInt8} {r : Str} {ts : List Str} (hs : sgB c = true) (h0 : letB c = false) (h1 : digB c = false) (h2 : ¬ c = 39) (h3 : ¬ c = 32) (h : LexR r ts) : LexR (c :: r) ([c] :: ts) :=
  .tok (t := [c]) h3 rfl (tok_5 h0 h1 h2 hs) (by simp) h
theorem wn_all {p : UInt8 → Bool} : ∀ {w rest : Str}, (∀ b ∈ w, p b = true) → (∀ c, rest.head? = some c → p c = false) → wn p (w ++ rest) = w.length
  | [], rest, _, hr => by
    cases rest with
    | nil => rfl
    | cons c r => rw [List.nil_append, wn, if_neg (by rw [hr c rfl]; decide)]; rfl
  | b :: w, rest, hw, hr => by
    rw [List.cons_append, wn, if_pos (hw b List.mem_cons_self), wn_all (fun x hx => hw x (List.mem_cons_of_mem _ hx)) hr, List.length_cons]
theorem let_ne {c : UInt8} (h : letB c = true) : ¬ c = 32 := fun e => by rw [e] at h; exact absurd h (by decide)
theorem dig_ne {c : UInt8} (h : digB c = true) : ¬ c = 32 := fun e => by rw [e] at h; exact absurd h (by decide)
theorem dig_let {c : UInt8} (h : digB c = true) : letB c = false := by
  unfold digB at h
  rw [Bool.and_eq_true, decide_eq_true_eq, decide_eq_true_eq] at h
  cases hl : letB c with
  | false => rfl
  | true => have := inR_iff.1 hl; omega
theorem LexR.word {c : UInt8} {w rest : Str} {rs : List Str} (hc : letB c = true) (hw : ∀ b ∈ w, wordB b = true) (hb : bdr rest) (h : LexR rest rs) : LexR ((c :: w) ++ rest) ((c :: w) :: rs) :=
  .tok (c := c) (r := w ++ rest) (t := c :: w) (let_ne hc) rfl (by rw [tok_1 hc, wn_all hw hb]; rfl) (by simp) h
theorem word_dig {c : UInt8} (h : wordB c = false) : digB c = false := by
  unfold wordB at h; rw [Bool.or_eq_false_iff] at h; exact h.2
theorem LexR.num {u : Nat} {rest : Str} {rs : List Str} (hb : bdr rest) (h : LexR rest rs) : LexR (decDigits u ++ rest) (decDigits u :: rs) := by
  have ha := dd_all u
  cases hd : decDigits u with
  | nil => exact absurd hd (dd_ne u)
  | cons c w =>
    rw [hd] at ha
    have hc := ha c List.mem_cons_self
    exact .tok (c := c) (r := w ++ rest) (t := c :: w) (dig_ne hc) rfl (by rw [tok_2 (dig_let hc) hc, wn_all (fun b hb => ha b (List.mem_cons_of_mem _ hb)) (fun x hx => word_dig (hb x hx))]; rfl) (by simp) h
theorem LexR.quote {w rest : Str} {rs : List Str} (hw : ∀ b ∈ w, letB b = true) (h : LexR rest rs) : LexR (39 :: (w ++ 39 :: rest)) ((39 :: w ++ [39]) :: rs) := by
  have hn : wn letB (w ++ 39 :: rest) = w.length := wn_all hw (fun c hc => by cases hc; decide)
  refine .tok (c := 39) (r := w ++ 39 :: rest) (t := 39 :: w ++ [39]) (by decide) (by simp) ?_ (by simp) h
  rw [tok_3 (by decide) (by decide) rfl (by rw [hn]; simp), hn]; simp
theorem LexR.minus {r : Str} {ts : List Str} (h : LexR r ts) : LexR (45 :: r) ([45] :: ts) := .sign (by decide) (by decide) (by decide) (by decide) (by decide) h
theorem isWord_let {t : Str} (h : isWord t = true) : (∀ b ∈ t, letB b = true) ∧ t.length ≤ 10 := by
  unfold isWord at h
  rw [Bool.and_eq_true] at h
  refine ⟨fun b hb => ?_, by have := of_decide_eq_true h.2; omega⟩
  have h1 := h.1
  rw [Bool.not_eq_true', List.any_eq_false] at h1
  have := h1 b hb
  unfold badCh at this
  unfold letB
  cases hh : inR (b.toNat : Int) 97 122 with
  | true => rfl
  | false => rw [hh] at this; exact absurd rfl this
theorem vOK_2 {v : GValue} (h : valueOK v = true) (h0 : ¬ v.Kind = 0) (h1 : ¬ v.Kind = 1) : v.Kind = 2 ∧ v.N = 0 ∧ isWord v.T = true := by
  rw [valueOK_2 h0 h1] at h
  simp only [Bool.and_eq_true, decide_eq_true_eq] at h
  exact ⟨h.1.1, h.1.2, h.2⟩
theorem LexR.val {v : GValue} {rest : Str} {rs : List Str} (hv : valueOK v = true) (hb : bdr rest) (h : LexR rest rs) : LexR (vtextF v ++ rest) (tkV v ++ rs) := by
  unfold tkV
  by_cases h0 : v.Kind = 0
  · rw [vtext_0 h0, if_pos h0]
    exact .word (c := 110) (w := [117, 108, 108]) (by decide) (by decide) hb h
  by_cases h1 : v.Kind = 1
  · rw [vtext_1 h1, if_neg h0, if_pos h1]
    by_cases hn : v.N < 0
    · rw [if_pos hn]
      unfold Lib.itoa
      rw [if_pos hn]
      exact .minus (.num hb h)
    · rw [if_neg hn, itoa_nn (by omega)]
      exact .num hb h
  · rw [vtext_2 h0 h1, if_neg h0, if_neg h1]
    have := (LexR.quote (isWord_let (vOK_2 hv h0 h1).2.2).1 h)
    simpa using this
section
variable {ns : List GExprNode}
end
end Go.AM
namespace Go.AM
open Go.Lib (decDigits)
section
variable {ns : List GExprNode}
end
theorem isP_nil {t : Str} {ts : List Str} : isP [] (t :: ts) = false := by
  unfold isP
  rw [decide_eq_false (by simp), Bool.false_and]
theorem isP_one {w t : Str} {r : List Str} : isP (w :: r) [t] = decide (w = t) := by
  unfold isP
  rw [decide_eq_true (by simp), Bool.true_and]
  exact decide_eq_decide.2 (by simp)
/-- No sign that joins stands next. -/
structure Stp (l : Nat) (tk : List Str) : Prop where
  mul : l ≤ 5 → isP tk [sgnT 8] = false ∧ isP tk [sgnT 9] = false
  add : l ≤ 4 → isP tk [sgnT 6] = false ∧ isP tk [sgnT 7] = false
  cmp : l ≤ 3 → isP tk [[61]] = false ∧ isP tk [[60]] = false ∧ isP tk [[105, 115], [110, 117, 108, 108]] = false
  and_ : l ≤ 1 → isP tk [sgnT 12] = false
  or_ : l ≤ 0 → isP tk [sgnT 13] = false
theorem Stp.nil {l : Nat} : Stp l [] := ⟨fun _ => ⟨isP_nil, isP_nil⟩, fun _ => ⟨isP_nil, isP_nil⟩, fun _ => ⟨isP_nil, isP_nil, isP_nil⟩, fun _ => isP_nil, fun _ => isP_nil⟩
theorem Stp.mono {l m : Nat} {tk : List Str} (h : Stp l tk) (hm : l ≤ m) : Stp m tk := ⟨fun g => h.mul (by omega), fun g => h.add (by omega), fun g => h.cmp (by omega), fun g => h.and_ (by omega), fun g => h.or_ (by omega)⟩
/-- A reading that goes through, whatever the fuel from b on. -/
def Rd (b l : Nat) (s s' : PS) (k : Int) : Prop := ∀ F, b ≤ F → prs F l s = some (s', k)
theorem pk_no2 {o p : Int} {s : PS} (h : isP s.tk [sgnT o] = false) (h1 : isP s.tk [sgnT p] = false) : pkL [o, p] (0, s) = (0, s) := by
  rw [pkL, if_neg (fun e => by rw [h] at e; exact absurd e.2 (by decide)), pkL, if_neg (fun e => by rw [h1] at e; exact absurd e.2 (by decide)), pkL]
theorem pk_no1 {o : Int} {s : PS} (h : isP s.tk [sgnT o] = false) : pkL [o] (0, s) = (0, s) := by
  rw [pkL, if_neg (fun e => by rw [h] at e; exact absurd e.2 (by decide)), pkL]
section
variable {b : Nat} {s s' : PS} {k : Int}
end
end Go.AM
namespace Go.AM
open Go.Lib (decDigits)
section
variable {b op : Nat} {tk rest : List Str} {ns ns' : List GExprNode} {k : Int}
end
section
variable {ns : List GExprNode}
end
end Go.AM
namespace Go.AM
open Go.Lib (decDigits)
section
variable {ns : List GExprNode}
theorem Rd.mono {b b' l : Nat} {s s' : PS} {k : Int} (h : Rd b l s s' k) (hb : b ≤ b') : Rd b' l s s' k := fun F hF => h F (by omega)
end
theorem exprOK_d {e : GExpr} (h : exprOK e = true) : depthF e.Nodes ≤ 12 ∧ (T e.Nodes ((e.Nodes.length : Int) - 1)).2.1 ≤ 12 ∧ (T e.Nodes ((e.Nodes.length : Int) - 1)).1 = 0 := by
  have h1 := @exprOK_i e
  rw [h, Bool.and_eq_true] at h1
  have h2 := exprOK_T h
  have hn := exprOK_n h
  refine ⟨(inR_iff.1 h1.2).2, ?_, h2.2.2⟩
  rw [exprOK_1 (inR_iff.2 (by omega)), T_of (by omega) (by omega)] at h
  simp only [Bool.and_eq_true, decide_eq_true_eq] at h
  exact h.2
end Go.AM

namespace Go.AM
set_option linter.unusedVariables false
def noQ (C : PS → Option (PS × Int)) (s : PS) : Option (PS × Int) := if isP s.tk [[110, 111, 116]] = true then none else C s
def cmQ (S : PS → Option (PS × Int)) (s : PS) : Option (PS × Int) := match S s with
  | none => none
  | some (s1, l) =>
    if isP s1.tk [[61]] = true then (match S (dpP s1 1) with
      | none => none
      | some (s2, r) => ndP s2 (nd 10 l r))
    else if isP s1.tk [[60]] = true then (match S (dpP s1 1) with
      | none => none
      | some (s2, r) => ndP s2 (nd 11 l r))
    else if isP s1.tk [[105, 115]] = true then none
    else some (s1, l)
def ahQ (Q : PS → Option (PS × Int)) (s : PS) : Option (PS × Int) := if isP s.tk [[45]] = true then none else Q s
def prQ (O : PS → Option (PS × Int)) (s : PS) : Option (PS × Int) :=
  if isP s.tk [[40]] = true then (match wiP O (dpP s 1) with
    | none => none
    | some (s1, k) => if isP s1.tk [[41]] = true then some (dpP s1 1, k) else none)
  else match s.tk with
    | [] => none
    | t :: _ => if 0 ≤ colP t then ndP (dpP s 1) ⟨2, 0, 0, colP t, GValue.zero⟩ else if t = [53] then ndP (dpP s 1) ⟨1, 0, 0, 0, vI 5⟩ else none
def qrs : Nat → Nat → PS → Option (PS × Int)
  | 0, _, _ => none
  | f + 1, 0, s => joP (qrs f 1) [13] f s
  | f + 1, 1, s => joP (qrs f 2) [12] f s
  | f + 1, 2, s => noQ (qrs f 3) s
  | f + 1, 3, s => cmQ (qrs f 4) s
  | f + 1, 4, s => joP (qrs f 5) [6, 7] f s
  | f + 1, 5, s => joP (qrs f 6) [8, 9] f s
  | f + 1, 6, s => ahQ (qrs f 7) s
  | f + 1, 7, s => prQ (qrs f 0) s
  | _ + 1, _ + 8, _ => none
/-- The rest of the tokens is an end of all. -/
def SU (R : PS → Option (PS × Int)) : Prop := ∀ (s s' : PS) (k : Int), R s = some (s', k) → s'.tk <:+ s.tk
theorem dp_su {s : PS} {n : Nat} : (dpP s n).tk <:+ s.tk := List.drop_suffix n s.tk
theorem nd_su {s s' : PS} {n : GExprNode} {k : Int} (h : ndP s n = some (s', k)) : s'.tk <:+ s.tk := by
  obtain ⟨_, rfl, _⟩ := ndP_some h; exact List.suffix_refl _
theorem SU.wi {R : PS → Option (PS × Int)} (hR : SU R) : SU (wiP R) := by
  intro s s' k h
  obtain ⟨_, s1, h1, rfl⟩ := wiP_some h
  exact (hR ⟨s.tk, s.ns, s.op + 1⟩ s1 k h1 : s1.tk <:+ s.tk)
theorem pkL_su : ∀ {ops : List Int} {a : Int × PS}, (pkL ops a).2.tk <:+ a.2.tk
  | [], a => List.suffix_refl _
  | o :: r, a => by
    rw [pkL]
    split
    · exact (pkL_su (ops := r) (a := (o, dpP a.2 1))).trans dp_su
    · exact pkL_su
theorem SU.joL {R : PS → Option (PS × Int)} {ops : List Int} (hR : SU R) : ∀ {f : Nat} {s s' : PS} {l k : Int}, joL R ops f s l = some (s', k) → s'.tk <:+ s.tk
  | 0, _, _, _, _, h => by cases h
  | f + 1, s, s', l, k, h => by
    have hq := pkL_su (ops := ops) (a := (0, s))
    by_cases ha : (pkL ops (0, s)).1 = 0
    · obtain ⟨h1, _⟩ := joL_stop h rfl ha
      rw [← h1]; exact hq
    · obtain ⟨s2, r, s3, k3, h1, h2, h3⟩ := joL_more h rfl ha
      exact (SU.joL hR h3).trans ((nd_su h2).trans ((hR _ _ _ h1).trans hq))
theorem SU.jo {R : PS → Option (PS × Int)} {ops : List Int} {f : Nat} (hR : SU R) : SU (joP R ops f) := by
  intro s s' k h
  obtain ⟨s1, l, h1, h2⟩ := joP_some h
  exact (hR.joL h2).trans (hR _ _ _ h1)
section
variable {C S O : PS → Option (PS × Int)} {s s' : PS} {k : Int}
theorem noQ_some (h : noQ C s = some (s', k)) : isP s.tk [[110, 111, 116]] = false ∧ C s = some (s', k) := by
  unfold noQ at h
  cases hi : isP s.tk [[110, 111, 116]] with
  | true => rw [hi] at h; cases h
  | false => rw [hi, if_neg (by decide)] at h; exact ⟨rfl, h⟩
theorem ahQ_some (h : ahQ C s = some (s', k)) : isP s.tk [[45]] = false ∧ C s = some (s', k) := by
  unfold ahQ at h
  cases hi : isP s.tk [[45]] with
  | true => rw [hi] at h; cases h
  | false => rw [hi, if_neg (by decide)] at h; exact ⟨rfl, h⟩
theorem cmQ_some (h : cmQ S s = some (s', k)) : ∃ s1 l, S s = some (s1, l) ∧
    (if isP s1.tk [[61]] = true then (match S (dpP s1 1) with
      | none => none
      | some (s2, r) => ndP s2 (nd 10 l r))
    else if isP s1.tk [[60]] = true then (match S (dpP s1 1) with
      | none => none
      | some (s2, r) => ndP s2 (nd 11 l r))
    else if isP s1.tk [[105, 115]] = true then none
    else some (s1, l)) = some (s', k) := by
  unfold cmQ at h
  split at h
  · cases h
  · rename_i s1 l h1; exact ⟨s1, l, h1, h⟩
theorem prQ_b (h : prQ O s = some (s', k)) (hi : isP s.tk [[40]] = true) : ∃ s1, wiP O (dpP s 1) = some (s1, k) ∧ isP s1.tk [[41]] = true ∧ s' = dpP s1 1 := by
  unfold prQ at h
  rw [if_pos hi] at h
  split at h
  · cases h
  · rename_i s1 l h1
    split at h
    · rename_i h2; cases h; exact ⟨s1, h1, h2, rfl⟩
    · cases h
theorem prQ_t (h : prQ O s = some (s', k)) (hi : isP s.tk [[40]] = false) : ∃ t r, s.tk = t :: r ∧ ((0 ≤ colP t ∧ ndP (dpP s 1) ⟨2, 0, 0, colP t, GValue.zero⟩ = some (s', k)) ∨ (colP t < 0 ∧ t = [53] ∧ ndP (dpP s 1) ⟨1, 0, 0, 0, vI 5⟩ = some (s', k))) := by
  unfold prQ at h
  rw [if_neg (by rw [hi]; decide)] at h
  split at h
  · cases h
  · rename_i t r ht
    split at h
    · rename_i hc; exact ⟨t, r, ht, .inl ⟨hc, h⟩⟩
    · rename_i hc
      split at h
      · rename_i h5; exact ⟨t, r, ht, .inr ⟨by omega, h5, h⟩⟩
      · cases h
theorem RO.noQ (hC : RO C) : RO (noQ C) := fun s s' k hs h => hC _ _ _ hs (noQ_some h).2
theorem RO.ahQ (hC : RO C) : RO (ahQ C) := fun s s' k hs h => hC _ _ _ hs (ahQ_some h).2
theorem RO.cmQ (hS : RO S) : RO (cmQ S) := by
  intro s s' k hs h
  obtain ⟨s1, l, h1, h2⟩ := cmQ_some h
  obtain ⟨g1, g2⟩ := hS _ _ _ hs h1
  split at h2
  · obtain ⟨s2, r, h3, h4⟩ := cm_two h2
    obtain ⟨g3, g4⟩ := hS _ _ _ (g1.dp 1) h3
    exact ⟨g3.nd h4, by rw [ndP_op h4, g4]; exact g2⟩
  · split at h2
    · obtain ⟨s2, r, h3, h4⟩ := cm_two h2
      obtain ⟨g3, g4⟩ := hS _ _ _ (g1.dp 1) h3
      exact ⟨g3.nd h4, by rw [ndP_op h4, g4]; exact g2⟩
    · split at h2
      · cases h2
      · cases h2; exact ⟨g1, g2⟩
theorem RO.prQ (hO : RO O) : RO (prQ O) := by
  intro s s' k hs h
  cases hi : isP s.tk [[40]] with
  | true =>
    obtain ⟨s1, h1, _, rfl⟩ := prQ_b h hi
    obtain ⟨g1, g2⟩ := hO.wi _ _ _ (hs.dp 1) h1
    exact ⟨g1.dp 1, g2⟩
  | false =>
    obtain ⟨t, r, _, h2 | h2⟩ := prQ_t h hi
    · exact ⟨(hs.dp 1).nd h2.2, by rw [ndP_op h2.2]; rfl⟩
    · exact ⟨(hs.dp 1).nd h2.2.2, by rw [ndP_op h2.2.2]; rfl⟩
theorem SU.noQ (hC : SU C) : SU (noQ C) := fun s s' k h => hC _ _ _ (noQ_some h).2
theorem SU.ahQ (hC : SU C) : SU (ahQ C) := fun s s' k h => hC _ _ _ (ahQ_some h).2
theorem SU.cmQ (hS : SU S) : SU (cmQ S) := by
  intro s s' k h
  obtain ⟨s1, l, h1, h2⟩ := cmQ_some h
  have g1 := hS _ _ _ h1
  split at h2
  · obtain ⟨s2, r, h3, h4⟩ := cm_two h2
    exact (nd_su h4).trans ((hS _ _ _ h3).trans (dp_su.trans g1))
  · split at h2
    · obtain ⟨s2, r, h3, h4⟩ := cm_two h2
      exact (nd_su h4).trans ((hS _ _ _ h3).trans (dp_su.trans g1))
    · split at h2
      · cases h2
      · cases h2; exact g1
theorem SU.prQ (hO : SU O) : SU (prQ O) := by
  intro s s' k h
  cases hi : isP s.tk [[40]] with
  | true =>
    obtain ⟨s1, h1, _, rfl⟩ := prQ_b h hi
    exact dp_su.trans ((hO.wi _ _ _ h1).trans dp_su)
  | false =>
    obtain ⟨t, r, _, h2 | h2⟩ := prQ_t h hi
    · exact (nd_su h2.2).trans dp_su
    · exact (nd_su h2.2.2).trans dp_su
end
theorem qrs_ro : ∀ (f l : Nat), RO (qrs f l)
  | 0, _ => fun _ _ _ _ h => by cases h
  | f + 1, 0 => (qrs_ro f 1).jo
  | f + 1, 1 => (qrs_ro f 2).jo
  | f + 1, 2 => (qrs_ro f 3).noQ
  | f + 1, 3 => (qrs_ro f 4).cmQ
  | f + 1, 4 => (qrs_ro f 5).jo
  | f + 1, 5 => (qrs_ro f 6).jo
  | f + 1, 6 => (qrs_ro f 7).ahQ
  | f + 1, 7 => (qrs_ro f 0).prQ
  | _ + 1, _ + 8 => fun _ _ _ _ h => by cases h
theorem qrs_su : ∀ (f l : Nat), SU (qrs f l)
  | 0, _ => fun _ _ _ h => by cases h
  | f + 1, 0 => (qrs_su f 1).jo
  | f + 1, 1 => (qrs_su f 2).jo
  | f + 1, 2 => (qrs_su f 3).noQ
  | f + 1, 3 => (qrs_su f 4).cmQ
  | f + 1, 4 => (qrs_su f 5).jo
  | f + 1, 5 => (qrs_su f 6).jo
  | f + 1, 6 => (qrs_su f 7).ahQ
  | f + 1, 7 => (qrs_su f 0).prQ
  | _ + 1, _ + 8 => fun _ _ _ h => by cases h
/-- A reader of the reference. -/
def RQ (P : Program) (tk0 : List Str) (F : Nat) (R : PS → Option (PS × Int)) : Prop := ∀ (s s' : PS) (k : Int), s.ok → s.tk <:+ tk0 → R s = some (s', k) →
  Con P (fun e => Nat.beq e 1001) F [.ptr 1000 0] [(1000, .box [.d (.sl 1 (tk0.map strRow)), int ((tk0.length - s.tk.length : Nat) : Int), .osl 1001 7 0 s.ns.length, int 0, int (s.op : Int)]), (1001, .rows 7 (s.ns.map GExprNode.row))]
    (fun r h => r = int k ∧ h = [(1000, .box [.d (.sl 1 (tk0.map strRow)), int ((tk0.length - s'.tk.length : Nat) : Int), .osl 1001 7 0 s'.ns.length, int 0, int (s'.op : Int)]), (1001, .rows 7 (s'.ns.map GExprNode.row))])
theorem su_at {tk tk0 : List Str} (h : tk <:+ tk0) (hp : 0 < tk.length) : (tk0.map strRow)[tk0.length - tk.length]? = some (strRow (tk.headD [])) := by
  obtain ⟨u, rfl⟩ := h
  cases tk with
  | nil => cases hp
  | cons t r =>
    rw [List.length_append, Nat.add_sub_cancel, List.map_append, List.getElem?_append_right (by simp)]
    simp
theorem su_len {tk tk0 : List Str} (h : tk <:+ tk0) : tk.length ≤ tk0.length := h.length_le
theorem isP_hd {tk : List Str} {t : Str} (ht : t ≠ []) : isP tk [t] = decide (tk.headD [] = t) := by
  cases tk with
  | nil => rw [isP_nil]; exact (decide_eq_false (fun e => ht e.symm)).symm
  | cons w r => rw [isP_one]; rfl
theorem pk1_t {o : Int} {s : PS} (h : isP s.tk [sgnT o] = true) : pkL [o] (0, s) = (o, dpP s 1) := by
  rw [pkL, if_pos ⟨rfl, h⟩, pkL]
theorem pk2_a {o p : Int} {s : PS} (ho : ¬ o = 0) (h : isP s.tk [sgnT o] = true) : pkL [o, p] (0, s) = (o, dpP s 1) := by
  rw [pkL, if_pos ⟨rfl, h⟩, pkL, if_neg (fun e => ho e.1), pkL]
theorem pk2_b {o p : Int} {s : PS} (h1 : isP s.tk [sgnT o] = false) (h : isP s.tk [sgnT p] = true) : pkL [o, p] (0, s) = (p, dpP s 1) := by
  rw [pkL, if_neg (fun e => by rw [h1] at e; exact absurd e.2 (by decide))]
  exact pk1_t h
theorem cols_atN {i : Nat} (h : i < 3) : (colsL.map strRow)[i]? = some (strRow (colsL.getD i [])) := by
  rcases (by omega : i = 0 ∨ i = 1 ∨ i = 2) with rfl | rfl | rfl <;> rfl
theorem cols_ne {i : Nat} (h : i < 3) : colsL.getD i [] ≠ [] := by
  rcases (by omega : i = 0 ∨ i = 1 ∨ i = 2) with rfl | rfl | rfl <;> decide
theorem col_some {tk : List Str} {t : Str} {r : List Str} {i : Nat} (ht : tk = t :: r) (hi : i < 3) (h : isP tk [colsL.getD i []] = true) : colP t = (i : Int) := by
  rw [ht, isP_one, decide_eq_true_eq] at h
  rw [h]
  rcases (by omega : i = 0 ∨ i = 1 ∨ i = 2) with rfl | rfl | rfl <;> decide
theorem col_none {tk : List Str} {t : Str} {r : List Str} (ht : tk = t :: r) (hb : ∀ j, j < 3 → isP tk [colsL.getD j []] = false) : colP t < 0 := by
  have h0 := hb 0 (by decide)
  have h1 := hb 1 (by decide)
  have h2 := hb 2 (by decide)
  rw [ht, isP_one, decide_eq_false_iff_not] at h0 h1 h2
  have h0 : ¬ t = [105, 100] := h0
  have h1 : ¬ t = [110] := h1
  have h2 : ¬ t = [110, 97, 109, 101] := h2
  unfold colP
  rw [if_neg h0, if_neg h1, if_neg h2]; decide
end Go.AM

namespace Go.AM
set_option linter.unusedVariables false
def sgL8 : List Str := [[111, 114], [97, 110, 100], [61], [60], [43], [45], [42], [47]]
def lvL8 : List Int := [0, 1, 2, 2, 3, 3, 4, 4]
def sg8 (i : Nat) : Str := sgL8.getD i []
def lv8 (i : Nat) : Int := lvL8.getD i 0
theorem sg8_at {i : Nat} (h : i < 8) : (sgL8.map strRow)[i]? = some (strRow (sg8 i)) ∧ (sg8 i).length ≤ 3 := by
  rcases (by omega : i = 0 ∨ i = 1 ∨ i = 2 ∨ i = 3 ∨ i = 4 ∨ i = 5 ∨ i = 6 ∨ i = 7) with rfl | rfl | rfl | rfl | rfl | rfl | rfl | rfl <;> exact ⟨rfl, by decide⟩
theorem lv8_at {i : Nat} (h : i < 8) : (lvL8.map intRow)[i]? = some (intRow (lv8 i)) := by
  rcases (by omega : i = 0 ∨ i = 1 ∨ i = 2 ∨ i = 3 ∨ i = 4 ∨ i = 5 ∨ i = 6 ∨ i = 7) with rfl | rfl | rfl | rfl | rfl | rfl | rfl | rfl <;> rfl
def plainB (i j : Nat) : Str := ((([105, 100, 32] ++ sg8 i) ++ [32, 110, 32]) ++ sg8 j) ++ [32, 53]
def leftB (i j : Nat) : Str := ((([40, 105, 100, 32] ++ sg8 i) ++ [32, 110, 41, 32]) ++ sg8 j) ++ [32, 53]
def rightB (i j : Nat) : Str := ((([105, 100, 32] ++ sg8 i) ++ [32, 40, 110, 32]) ++ sg8 j) ++ [32, 53, 41]
def dueB (i j : Nat) : Str := if lv8 j > lv8 i then rightB i j else leftB i j
/-- What the text reads as. -/
def binE (i j : Nat) : GExpr := match lexF 40 (plainB i j) with
  | none => ⟨[]⟩
  | some ts => match prs 60 0 ⟨ts, [], 0⟩ with
    | none => ⟨[]⟩
    | some (s, _) => ⟨s.ns⟩
def nodeB (a b : GExprNode) : Bool := decide (a.Op = b.Op) && decide (a.A = b.A) && decide (a.B = b.B) && decide (a.Column = b.Column) && decide (a.V.Kind = b.V.Kind) && decide (a.V.N = b.V.N) && decide (a.V.T = b.V.T)
def nodesB : List GExprNode → List GExprNode → Bool
  | [], [] => true
  | a :: r, b :: t => nodeB a b && nodesB r t
  | _, _ => false
theorem nodesB_eq : ∀ {a b : List GExprNode}, nodesB a b = true → a = b
  | [], [], _ => rfl
  | [], _ :: _, h => by cases h
  | _ :: _, [], h => by cases h
  | x :: r, y :: t, h => by
    rw [nodesB, Bool.and_eq_true] at h
    have h1 := h.1
    unfold nodeB at h1
    simp only [Bool.and_eq_true, decide_eq_true_eq] at h1
    rw [nodesB_eq h.2, GExprNode.ext1 h1.1.1.1.1.1.1 h1.1.1.1.1.1.2 h1.1.1.1.1.2 h1.1.1.1.2 (GValue.ext1 h1.1.1.2 h1.1.2 h1.2)]
def okTB (t : Str) : Bool := decide (1 ≤ t.length) && decide (t.length ≤ 18) && (decide (t.head? ≠ some 39) || decide (2 ≤ t.length))
theorem okTB_ok {t : Str} (h : okTB t = true) : okT t := by
  unfold okTB at h
  simp only [Bool.and_eq_true, Bool.or_eq_true, decide_eq_true_eq] at h
  exact ⟨h.1.1, h.1.2, fun e => h.2.resolve_left (fun g => g e)⟩
def endB (r : Option (PS × Int)) (e : GExpr) : Bool := match r with
  | none => false
  | some (s, _) => decide (s.tk = []) && nodesB s.ns e.Nodes && decide (s.op = 0)
theorem endB_ok {r : Option (PS × Int)} {e : GExpr} (h : endB r e = true) : ∃ k, r = some (⟨[], e.Nodes, 0⟩, k) := by
  unfold endB at h
  split at h
  · cases h
  · rename_i s k
    simp only [Bool.and_eq_true, decide_eq_true_eq] at h
    obtain ⟨⟨h1, h2⟩, h3⟩ := h
    have h2 := nodesB_eq h2
    obtain ⟨a, b, c⟩ := s
    simp only at h1 h2 h3
    exact ⟨k, by rw [h1, h2, h3]⟩
def chkB (R : List Str → Option (PS × Int)) (t : Str) (e : GExpr) : Bool := decide (t.length ≤ 65536) && (match lexF (t.length + 1) t with
  | none => false
  | some ts => decide (ts.length ≤ 500) && ts.all okTB && endB (R ts) e)
theorem chkB_ok {R : List Str → Option (PS × Int)} {t : Str} {e : GExpr} (h : chkB R t e = true) : t.length ≤ 65536 ∧ ∃ ts k, lexF (t.length + 1) t = some ts ∧ ts.length ≤ 500 ∧ (∀ x ∈ ts, okT x) ∧ R ts = some (⟨[], e.Nodes, 0⟩, k) := by
  unfold chkB at h
  rw [Bool.and_eq_true, decide_eq_true_eq] at h
  refine ⟨h.1, ?_⟩
  have h := h.2
  split at h
  · cases h
  · rename_i ts hts
    simp only [Bool.and_eq_true, decide_eq_true_eq, List.all_eq_true] at h
    obtain ⟨k, hk⟩ := endB_ok h.2
    exact ⟨ts, k, hts, h.1.1, fun x hx => okTB_ok (h.1.2 x hx), hk⟩
def QEok (t : Str) (e : GExpr) : Prop := t.length ≤ 65536 ∧ ∃ (toks : List Str) (f : Nat) (k : Int), lexF (t.length + 1) t = some toks ∧ toks.length ≤ 500 ∧ (∀ x ∈ toks, okT x) ∧ qrs f 0 ⟨toks, [], 0⟩ = some (⟨[], e.Nodes, 0⟩, k) ∧ exprOK e = true
def allB (i j : Nat) : Bool := (decide (lv8 i = 2) && decide (lv8 j = 2)) || (chkB (fun ts => prs 60 0 ⟨ts, [], 0⟩) (plainB i j) (binE i j) && chkB (fun ts => prs 60 0 ⟨ts, [], 0⟩) (dueB i j) (binE i j) && chkB (fun ts => qrs 60 0 ⟨ts, [], 0⟩) (plainB i j) (binE i j) && exprOK (binE i j))
theorem allB_ok : ∀ i : Fin 8, ∀ j : Fin 8, allB i.1 j.1 = true := by decide +kernel
theorem binds {i j : Nat} (hi : i < 8) (hj : j < 8) (h : ¬ lv8 i = 2 ∨ ¬ lv8 j = 2) : PEok (plainB i j) (binE i j) ∧ PEok (dueB i j) (binE i j) ∧ QEok (plainB i j) (binE i j) ∧ (binE i j).Nodes.length ≤ 1048576 := by
  have ha := allB_ok ⟨i, hi⟩ ⟨j, hj⟩
  unfold allB at ha
  rw [Bool.or_eq_true] at ha
  have ha := ha.resolve_left (fun g => by
    simp only [Bool.and_eq_true, decide_eq_true_eq] at g
    exact h.elim (fun q => q g.1) (fun q => q g.2))
  simp only [Bool.and_eq_true] at ha
  obtain ⟨⟨⟨h1, h2⟩, h3⟩, h4⟩ := ha
  obtain ⟨a1, t1, k1, b1, c1, d1, e1⟩ := chkB_ok h1
  obtain ⟨a2, t2, k2, b2, c2, d2, e2⟩ := chkB_ok h2
  obtain ⟨a3, t3, k3, b3, c3, d3, e3⟩ := chkB_ok h3
  have hd := (exprOK_d h4).1
  have hz := expr_ok_sz h4
  have hn := (exprOK_n h4).2
  exact ⟨⟨a1, t1, 60, k1, b1, c1, d1, e1, hd, hz.2, hn⟩, ⟨a2, t2, 60, k2, b2, c2, d2, e2, hd, hz.2, hn⟩, ⟨a3, t3, 60, k3, b3, c3, d3, e3, h4⟩, hz.1⟩
theorem at8 (code : Str) : ∃ i : Nat, atF code 0 8 = (i : Int) ∧ i < 8 := by
  have := atF_bounds (more := code) (i := 0) (n := 8) (by decide)
  exact ⟨(atF code 0 8).toNat, by omega, by omega⟩
end Go.AM

namespace Go.AM
theorem laidVars_mem {P : Program} {w : World} : ∀ {l : List (String × DataW Unit)} {ps : List MemPlace}, DataW.LaidVars P w l ps → ∀ {n : String} {d : DataW Unit}, (n, d) ∈ l →
    ∃ g t cs fuel p, P.globalNamed n = some g ∧ (P.globals[g]?).map (·.type) = some t ∧ w.var? P n = some cs ∧ DataW.trod (fun _ => ()) P w 0 (fun _ => true) false fuel t cs.toList = some (d, p)
  | [], _, _, _, _, hm => by cases hm
  | (n', d') :: r, ps, ⟨g, t, cs, fuel, p, q, h1, h2, h3, h4, h5, _⟩, n, d, hm => by
    rcases List.mem_cons.1 hm with e | hm
    · cases e; exact ⟨g, t, cs, fuel, p, h1, h2, h3, h4⟩
    · exact laidVars_mem h5 hm
theorem var_cells {P : Program} {w : World} {n : String} {g : Nat} {cs : Array Value} (hg : P.globalNamed n = some g) (h : w.var? P n = some cs) : ∃ ty fr, w.heap[g]? = some (.cells cs ty fr) := by
  unfold World.var? at h
  rw [hg] at h
  simp only [Option.bind_some] at h
  cases hh : w.heap[g]? with
  | none => rw [hh] at h; cases h
  | some o =>
    rw [hh] at h
    cases o with
    | cells c ty fr => cases h; exact ⟨ty, fr, rfl⟩
    | _ => cases h
theorem pow10_cells : (Lib.pow10Tab.map fun z => Value.int .u64 z).toArray = #[.int .u64 1, .int .u64 10, .int .u64 100, .int .u64 1000, .int .u64 10000, .int .u64 100000, .int .u64 1000000, .int .u64 10000000, .int .u64 100000000, .int .u64 1000000000, .int .u64 10000000000, .int .u64 100000000000, .int .u64 1000000000000, .int .u64 10000000000000, .int .u64 100000000000000, .int .u64 1000000000000000, .int .u64 10000000000000000, .int .u64 100000000000000000, .int .u64 1000000000000000000, .int .u64 10000000000000000000] := by
  rfl
/-- One table reads as laid. -/
def TabOK (P : Program) (W : World) (n : String) (cs : Array Value) : Prop := ∀ g, P.globalNamed n = some g → ∃ ty fr, W.heap[g]? = some (.cells cs ty fr)
theorem tab_pow {P : Program} {W : World} {l : List (String × DataW Unit)} {g t e : Nat} (hm : ("internal/strconv.uint64pow10", Lib.tabData .u64 Lib.pow10Tab) ∈ l) (hg : P.globalNamed "internal/strconv.uint64pow10" = some g) (hty : (P.globals[g]?).map (·.type) = some t)
    (ht : P.underlying t = some (.array 20 e)) (he : P.underlying e = some (.int .u64)) (hce : P.cellsOf e = 1) (hct : P.cellsOf t = 20) (h : laidMet P l W) : TabOK P W "internal/strconv.uint64pow10" #[.int .u64 1, .int .u64 10, .int .u64 100, .int .u64 1000, .int .u64 10000, .int .u64 100000, .int .u64 1000000, .int .u64 10000000, .int .u64 100000000, .int .u64 1000000000, .int .u64 10000000000, .int .u64 100000000000, .int .u64 1000000000000, .int .u64 10000000000000, .int .u64 100000000000000, .int .u64 1000000000000000, .int .u64 10000000000000000, .int .u64 100000000000000000, .int .u64 1000000000000000000, .int .u64 10000000000000000000] := by
  obtain ⟨ps, hl, _⟩ := h
  obtain ⟨g', t', cs, fuel, p, hg', hty', hv, hd⟩ := laidVars_mem hl hm
  obtain rfl := Option.some.inj (hg.symm.trans hg')
  obtain rfl := Option.some.inj (hty.symm.trans hty')
  have hc := Lib.cells_of_tab ht he hce hct hd
  have hc2 : cs = (Lib.pow10Tab.map fun z => Value.int .u64 z).toArray := by rw [← hc]
  obtain ⟨ty, fr, hh⟩ := var_cells hg hv
  intro g2 hg2
  obtain rfl := Option.some.inj (hg.symm.trans hg2)
  exact ⟨ty, fr, by rw [hh, hc2, pow10_cells]⟩
theorem cells_of_strs {H : Type} {enc : TypeId × Value → H} {P : Program} {w : World} {base : Nat} {sp : Nat → Bool} {held : Bool} {fuel : Nat} {t e : TypeId} {n : Nat} {cs : List Value} {zs : List Str} {p : List MemPlace}
    (ht : P.underlying t = some (.array n e)) (he : P.underlying e = some .string) (hce : P.cellsOf e = 1) (hct : P.cellsOf t = n)
    (h : DataW.trod enc P w base sp held fuel t cs = some (.agg (zs.map fun z => .lit (.string z)), p)) : cs = zs.map fun z => Value.string ⟨z.toArray⟩ := by
  cases fuel with
  | zero => simp [DataW.trod] at h
  | succ fuel =>
    simp only [DataW.trod, ht, hce, hct, Nat.mul_one] at h
    split at h
    · rename_i hl
      obtain ⟨xs, hm, hx⟩ := Option.map_eq_some_iff.1 h
      have hxs : xs.map (·.1) = zs.map fun z => (DataW.lit (.string z) : DataW H) := by
        have := congrArg Prod.fst hx
        simpa using this
      have hxl : xs.length = n := by simpa using Lib.mapM_length hm
      have hzl : zs.length = n := by
        have := congrArg List.length hxs
        simp at this
        omega
      apply List.ext_getElem?
      intro i
      by_cases hi : i < n
      · obtain ⟨b, hb, hf⟩ := Lib.mapM_at hm i i (by simp [hi])
        obtain ⟨z, hc, rfl, _⟩ := DataW.trod_string he hf
        have h1 : cs[i]? = some (.string z) := by
          have := congrArg (·[0]?) hc
          simpa [List.getElem?_take, List.getElem?_drop] using this
        have h2 : (xs.map (·.1))[i]? = some (DataW.lit (.string z.data.toList) : DataW H) := by simp [hb]
        rw [hxs] at h2
        simp only [List.getElem?_map, Option.map_eq_some_iff, DataW.lit.injEq, Lit.string.injEq] at h2
        obtain ⟨z', hz', rfl⟩ := h2
        rw [h1]
        simp [hz']
      · rw [List.getElem?_eq_none (by omega), List.getElem?_eq_none (by simp; omega)]
    · cases h
theorem tab_strs {P : Program} {W : World} {l : List (String × DataW Unit)} {nm : String} {zs : List Str} {g t e n : Nat} (hm : (nm, .agg (zs.map fun z => .lit (.string z))) ∈ l) (hg : P.globalNamed nm = some g) (hty : (P.globals[g]?).map (·.type) = some t)
    (ht : P.underlying t = some (.array n e)) (he : P.underlying e = some .string) (hce : P.cellsOf e = 1) (hct : P.cellsOf t = n) (h : laidMet P l W) : TabOK P W nm (zs.map fun z => Value.string ⟨z.toArray⟩).toArray := by
  obtain ⟨ps, hl, _⟩ := h
  obtain ⟨g', t', cs, fuel, p, hg', hty', hv, hd⟩ := laidVars_mem hl hm
  obtain rfl := Option.some.inj (hg.symm.trans hg')
  obtain rfl := Option.some.inj (hty.symm.trans hty')
  have hc := cells_of_strs ht he hce hct hd
  obtain ⟨ty, fr, hh⟩ := var_cells hg hv
  intro g2 hg2
  obtain rfl := Option.some.inj (hg.symm.trans hg2)
  exact ⟨ty, fr, by rw [hh, ← hc]⟩
/-- A variable that holds an interface. -/
def VarI (P : Program) (W : World) (n : String) : Prop := ∀ g, P.globalNamed n = some g → ∃ v ty fr, (v = .nilIface ∨ ∃ te pe, v = Value.iface te pe) ∧ W.heap[g]? = some (.cells #[v] ty fr)
theorem trod_iface {H : Type} {enc : TypeId × Value → H} {P : Program} {w : World} {base : Nat} {sp : Nat → Bool} {held : Bool} {fuel : Nat} {t : TypeId} {ms : Array (String × TypeId)} {cs : List Value} {x : DataW H × List MemPlace}
    (ht : P.underlying t = some (.interface ms)) (h : DataW.trod enc P w base sp held fuel t cs = some x) : ∃ v, cs = [v] ∧ (v = .nilIface ∨ ∃ te pe, v = Value.iface te pe) := by
  cases fuel with
  | zero => simp [DataW.trod] at h
  | succ fuel =>
    unfold DataW.trod at h
    rw [ht] at h
    match cs, h with
    | [], h => cases h
    | v :: _ :: _, h => cases v <;> cases h
    | [v], h =>
      refine ⟨v, rfl, ?_⟩
      cases v <;> first | exact .inl rfl | exact .inr ⟨_, _, rfl⟩ | cases h
theorem tab_iface {P : Program} {W : World} {l : List (String × DataW Unit)} {nm : String} {d : DataW Unit} {g t : Nat} {ms : Array (String × TypeId)} (hm : (nm, d) ∈ l) (hg : P.globalNamed nm = some g) (hty : (P.globals[g]?).map (·.type) = some t)
    (ht : P.underlying t = some (.interface ms)) (h : laidMet P l W) : VarI P W nm := by
  obtain ⟨ps, hl, _⟩ := h
  obtain ⟨g', t', cs, fuel, p, hg', hty', hv, hd⟩ := laidVars_mem hl hm
  obtain rfl := Option.some.inj (hg.symm.trans hg')
  obtain rfl := Option.some.inj (hty.symm.trans hty')
  obtain ⟨v, hc, hk⟩ := trod_iface ht hd
  obtain ⟨ty, fr, hh⟩ := var_cells hg hv
  intro g2 hg2
  obtain rfl := Option.some.inj (hg.symm.trans hg2)
  exact ⟨v, ty, fr, hk, by rw [hh, ← hc]⟩
theorem gok_three {P : Program} {W : World} (h1 : TabOK P W "internal/strconv.uint64pow10" #[.int .u64 1, .int .u64 10, .int .u64 100, .int .u64 1000, .int .u64 10000, .int .u64 100000, .int .u64 1000000, .int .u64 10000000, .int .u64 100000000, .int .u64 1000000000, .int .u64 10000000000, .int .u64 100000000000, .int .u64 1000000000000, .int .u64 10000000000000, .int .u64 100000000000000, .int .u64 1000000000000000, .int .u64 10000000000000000, .int .u64 100000000000000000, .int .u64 1000000000000000000, .int .u64 10000000000000000000])
    (h2 : TabOK P W "loop.example/g00332/impl.columnWords" #[.string ⟨#[105, 100]⟩, .string ⟨#[110]⟩, .string ⟨#[110, 97, 109, 101]⟩])
    (h3 : TabOK P W "loop.example/g00332/impl.binarySigns" #[.string ⟨#[43]⟩, .string ⟨#[45]⟩, .string ⟨#[42]⟩, .string ⟨#[47]⟩, .string ⟨#[61]⟩, .string ⟨#[60]⟩, .string ⟨#[97, 110, 100]⟩, .string ⟨#[111, 114]⟩])
    (h4 : VarI P W "strconv.ErrSyntax") : GOK P (fun _ => False) noN W := by
  intro q hq g2 hg2
  refine ⟨fun h => h, fun e h => (by cases h), ?_⟩
  simp only [gtab, List.mem_cons, List.not_mem_nil, or_false] at hq
  rcases hq with rfl | rfl | rfl | rfl
  · obtain ⟨ty, fr, h⟩ := h1 g2 hg2
    exact ⟨_, ty, fr, rfl, h⟩
  · obtain ⟨ty, fr, h⟩ := h2 g2 hg2
    exact ⟨_, ty, fr, rfl, h⟩
  · obtain ⟨ty, fr, h⟩ := h3 g2 hg2
    exact ⟨_, ty, fr, rfl, h⟩
  · obtain ⟨v, ty, fr, hv, h⟩ := h4 g2 hg2
    exact ⟨_, ty, fr, ⟨v, rfl, hv⟩, h⟩
end Go.AM

namespace Go.AM
open Go.ChangeShapes Go.RowKit
section
variable {H : Type} {enc : TypeId × Value → H} {P : Program} {Ts : List TypeId} {w : World}
def varOK (P : Program) (n : String) : Bool :=
  match P.globalNamed n with
  | some g => match (P.globals[g]?).map (·.type) with
    | some t => P.readableRec t && Nat.ble (t + 1) P.types.size
    | none => false
  | none => false
theorem again_vars {W W' : World} (hl : laidOutB P = true) (hb : Below W.heap.size W W') {sp : Nat → Bool} : ∀ {ns : List String} {ds : List (DataW H)} {ps : List MemPlace}, ns.all (varOK P) = true →
    DataW.TrodVars enc P W (fun _ => true) ns ds ps → (∀ x ∈ ps, x.block < W.heap.size) → (∀ x ∈ ps, sp x.block = true) → DataW.TrodVars enc P W' sp ns ds ps
  | [], [], ps, _, h, _, _ => h
  | [], _ :: _, _, _, h, _, _ => h.elim
  | _ :: _, [], _, _, h, _, _ => h.elim
  | n :: ns, d :: ds, ps, hin, h, hlt, hsp => by
    obtain ⟨g, t, cs, fuel, p, q, h1, h2, h3, h4, h5, rfl⟩ := h
    rw [List.all_cons, Bool.and_eq_true] at hin
    have hv := hin.1
    unfold varOK at hv
    rw [h1] at hv
    simp only [h2, Bool.and_eq_true] at hv
    obtain ⟨ty, fr, hh⟩ := var_cells h1 h3
    have hgl : g < W.heap.size := (Array.getElem?_eq_some_iff.1 hh).1
    have hh' : W'.heap[g]? = some (.cells cs ty fr) := by rw [hb.block g hgl]; exact hh
    have hv' : W'.var? P n = some cs := by
      unfold World.var?
      rw [h1]
      show (match W'.heap[g]? with
        | some (.cells cs _ _) => some cs
        | _ => none) = _
      rw [hh']
    have hlt' : ∀ x ∈ p, x.block < W.heap.size := fun x hx => hlt x (List.mem_append_left _ (List.mem_append_right _ hx))
    have hsp' : ∀ x ∈ p, sp x.block = true := fun x hx => hsp x (List.mem_append_left _ (List.mem_append_right _ hx))
    have hT : DataW.Trod enc P W' 0 sp true t (.agg cs) d p := WideElems.Trod_stays (v := .agg cs) hl hv.1 (Nat.le_of_ble_eq_true hv.2) ⟨fuel, h4⟩ (fun x hx => hb.same (hlt' x hx)) hsp'
    obtain ⟨fuel', h4'⟩ := hT
    exact ⟨g, t, cs, fuel', p, q, h1, h2, hv', h4', again_vars hl hb hin.2 h5 (fun x hx => hlt x (List.mem_append_right _ hx)) (fun x hx => hsp x (List.mem_append_right _ hx)), rfl⟩
theorem trodVars_len {sp : Nat → Bool} : ∀ {ns : List String} {ds : List (DataW H)} {ps : List MemPlace}, DataW.TrodVars enc P w sp ns ds ps → ds.length = ns.length
  | [], [], _, _ => rfl
  | [], _ :: _, _, h => h.elim
  | _ :: _, [], _, h => h.elim
  | n :: ns, d :: ds, ps, h => by
    obtain ⟨g, t, cs, fuel, p, q, h1, h2, h3, h4, h5, rfl⟩ := h
    simp [trodVars_len h5]
theorem law_postV {f : Func} {s : ChangeSpec} {W W' : World} {args : Array Value} {ds gs : List (DataW H)} {before : List MemPlace} {tb : TypeId} (hl : laidOutB P = true) (hty : typesOK P Ts f.params.toList = true) (hvar : s.vars.all (varOK P) = true)
    (hrt : f.resultTypes = #[tb]) (hb : P.underlying tb = some .bool) (hs : s.fn H (ds ++ gs) = { results := [.lit (.bool true)], args := ds, vars := gs })
    (hW : DataW.Whole enc P f.params.toList s.vars false W args.toList ds gs before) (hg : Below W.heap.size W W') : s.post enc P f false true false false W args (.bool true) W' := by
  have hlt := hW.lt
  have hW' := hW
  obtain ⟨p, q, hA, hV, hpq, hz, hn⟩ := hW
  subst hpq
  have hin : ∀ t ∈ f.params.toList, P.readableRec t = true ∧ t < P.types.size := fun t ht => by
    have := List.all_eq_true.1 hty t ht
    simp only [Bool.and_eq_true] at this
    have h1 := Nat.le_of_ble_eq_true this.2
    exact ⟨this.1.2, h1⟩
  have hltp : ∀ x ∈ p, x.block < W.heap.size := fun x hx => hlt x (List.mem_append_left _ hx)
  have hltq : ∀ x ∈ q, x.block < W.heap.size := fun x hx => hlt x (List.mem_append_right _ hx)
  have hargs : ∀ sp : Nat → Bool, (∀ x ∈ p, sp x.block = true) → DataW.TrodAll enc P W' 0 sp true f.params.toList args.toList ds p := fun sp hsp => again_trod hl hg hin hA hltp hsp
  have hvars : ∀ sp : Nat → Bool, (∀ x ∈ q, sp x.block = true) → DataW.TrodVars enc P W' sp s.vars gs q := fun sp hsp => again_vars hl hg hvar hV hltq hsp
  have hres : ∀ (b : Nat) (sp : Nat → Bool) (hd : Bool), DataW.TrodAll enc P W' b sp hd f.resultTypes.toList ((Value.bool true).resultList f.resultTypes.size) [.lit (.bool true)] [] := fun b sp hd => by
    rw [hrt]
    exact trodAll_cons_mk (shut_bool hb true) trodAll_mk0
  have oldp : ∀ x ∈ p, (fun b => decide (b < W.heap.size)) x.block = true := fun x hx => by simpa using hltp x hx
  have oldq : ∀ x ∈ q, (fun b => decide (b < W.heap.size)) x.block = true := fun x hx => by simpa using hltq x hx
  have hargs2 : ∀ sp : Nat → Bool, (∀ x ∈ p, sp x.block = true) → DataW.TrodAll enc P W' 0 sp true f.params.toList args.toList (s.fn H (ds ++ gs)).args p := by rw [hs]; exact hargs
  have hres2 : ∀ (b : Nat) (sp : Nat → Bool) (hd : Bool), DataW.TrodAll enc P W' b sp hd f.resultTypes.toList ((Value.bool true).resultList f.resultTypes.size) (s.fn H (ds ++ gs)).results [] := by rw [hs]; exact hres
  have hvars2 : ∀ sp : Nat → Bool, (∀ x ∈ q, sp x.block = true) → DataW.TrodVars enc P W' sp s.vars (s.fn H (ds ++ gs)).vars q := by rw [hs]; exact hvars
  refine ⟨ds, gs, p ++ q, [], p, q, hW', hres2 _ _ _, hargs2 _ oldp, hvars2 _ oldq, World.keptBut_mono (fun x hx => ⟨hx, .inr (List.mem_append.1 hx)⟩) (hg.frame (· ∈ p ++ q)), fun _ => ?_⟩
  refine ⟨ok_one hrt rfl (okWide_bool_mk hb true), _, _, ([] ++ p) ++ q, ⟨[] ++ p, q, trodAll_append (hargs2 _ (fun _ _ => rfl)) (hres2 _ _ _), hvars2 _ (fun _ _ => rfl), rfl, ?_, ?_⟩, ?_⟩
  · intro b off hp
    have hp' : MemPlace.cell b off ∈ p ++ q := by simpa using hp
    have hbl := hlt _ hp'
    rw [hg.frozen (p := ⟨b, off, none⟩) hbl]
    exact hz b off hp'
  · intro h; cases h
  · intro x hx _
    simpa using hx
theorem law_contractV {f : FuncId} {fn : Func} {s : ChangeSpec} {tb : TypeId} (hT : closedT P Ts = true) (hl : laidOutB P = true) (hty : typesOK P Ts fn.params.toList = true) (hvar : s.vars.all (varOK P) = true) (hrt : fn.resultTypes = #[tb]) (hb : P.underlying tb = some .bool)
    (hcon : ∀ rows, HasAll P fn.params.toList rows → Con P noMv f (argsAV P fn.params.toList rows) [] (fun r h => r = bool true ∧ h = []))
    {W : World} {base : Nat} {args : Array Value} {ds gs : List (DataW H)} {before : List MemPlace} (hs : ds.length = fn.params.toList.length → gs.length = s.vars.length → s.fn H (ds ++ gs) = { results := [.lit (.bool true)], args := ds, vars := gs })
    (hval : ∀ (j : Nat) t v, fn.params[j]? = some t → args[j]? = some v → Value.okWide P W .any base t v)
    (hW : DataW.Whole enc P fn.params.toList s.vars false W args.toList ds gs before) (hgl : GOK P (fun _ => False) noN W) :
    Calls P f args W fun e W' => ∃ v, e = .returned v ∧ s.post enc P fn false true false false W args v W' := by
  have hW' := hW
  obtain ⟨p, q, hA, hV, hpq, hz, hn⟩ := hW
  obtain ⟨h1, rows, h2, h3⟩ := args_AR hT (fun t ht => by
    have := List.all_eq_true.1 hty t ht
    simp only [Bool.and_eq_true] at this
    exact membN_iff.1 this.1.1) (fun j t v hj hv => hval j t v (by simpa using hj) (by simpa using hv)) hA
  have h4 := hcon rows h2 (fun _ => False) noN W args.toList (fun _ h => h.elim) (fun e b h => by cases h) ⟨fun e e' b h => (by cases h), fun e b h => (by cases h), fun e b h => (by cases h), fun e ob h => (by simp [get] at h)⟩ h3 hgl
  refine h4.mono ?_
  rintro e W' ⟨v, r, h', β', rfl, ⟨rfl, rfl⟩, hr, _, F, _⟩
  rw [AR, DR] at hr
  subst hr
  exact ⟨_, rfl, law_postV hl hty hvar hrt hb (hs h1 (trodVars_len hV)) hW' ⟨F.os, F.tape, F.output, F.size, fun b hb' => F.same b hb' (fun e h => by cases h)⟩⟩
end
end Go.AM
