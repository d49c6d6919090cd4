/- A layer over the calls (plain data, own blocks, code, contracts) and plain laws about what the functions compute (part 3). -/
import Derived.Test.YtcloaaakhojjgaaGreatA2
set_option linter.unusedVariables false
set_option linter.unusedSimpArgs false
namespace Go.AM
set_option linter.unusedVariables false
theorem CellD.sub {β β' : Names} {w : World} {e : Nat} {n : Option Nat} (hh : ∀ j b, β.hd e j = some b → ∃ j', β'.hd e j' = some b) (hn : ∀ k b, n = some k → β k = some b → β' k = some b) {x : D} {v : Value} (h : CellD β w e n x v) : CellD β' w e n x v := by
  cases n with
  | none =>
    cases x with
    | sl m xs =>
      obtain ⟨a, cap, h1, h2, h3⟩ := h
      refine ⟨a, cap, h1, h2, h3.imp id ?_⟩
      rintro ⟨j, b, c, ty, fr, q1, q2⟩
      obtain ⟨j', q⟩ := hh j b q1
      exact ⟨j', b, c, ty, fr, q, q2⟩
    | int _ _ => exact h
    | bool _ => exact h
    | str _ => exact h
    | ip _ => exact h
    | fn _ _ => exact h
    | nilp => exact h
  | some k =>
    cases x with
    | sl m xs =>
      obtain ⟨a, cap, h1, h2, h3⟩ := h
      refine ⟨a, cap, h1, h2, h3.imp id ?_⟩
      rintro ⟨b, c, ty, fr, q1, q2⟩
      exact ⟨b, c, ty, fr, hn k b rfl q1, q2⟩
    | int _ _ => exact h
    | bool _ => exact h
    | str _ => exact h
    | ip _ => exact h
    | fn _ _ => exact h
    | nilp => exact h
def shN (f : Option Nat) (g : Nat → Option Nat) : Nat → Option Nat
  | 0 => f
  | j + 1 => g j
theorem CellD.some {β β' : Names} {w : World} {e k : Nat} {x : D} {v : Value} (hn : β' k = β k) (h : CellD β w e (some k) x v) : CellD β' w e (some k) x v := by
  cases x with
  | sl m xs =>
    obtain ⟨a, cap, h1, h2, h3⟩ := h
    refine ⟨a, cap, h1, h2, h3.imp id ?_⟩
    rintro ⟨b, c, ty, fr, q1, q2⟩
    exact ⟨b, c, ty, fr, by rw [hn]; exact q1, q2⟩
  | int _ _ => exact h
  | bool _ => exact h
  | str _ => exact h
  | ip _ => exact h
  | fn _ _ => exact h
  | nilp => exact h
/-- What is known of a cell that was just made: what is behind it is forgotten. -/
def zD (x : D) : D := bif flatS x then x else .nilp
theorem zD_cell {β : Names} {w : World} {e : Nat} {ok : Nat → Prop} {x : D} {v : Value} (h : DR w ok x v) : CellD β w e none (zD x) v := by
  unfold zD
  cases hf : flatS x with
  | true => exact (cellD_flat hf).2 (flatS_dr hf h)
  | false => trivial
theorem zD_sl {x : D} {n : Nat} {xs : List (List D)} : zD x ≠ .sl n xs := by
  unfold zD
  cases x <;> simp [flatS]
section
variable {C : Cx} {sl : List (Nat × AV)} {own : List (Nat × OB)}
theorem wk_deepz (e : Nat) {sz : Nat} {rs rs' : List (List D)} (he : get own e = some (.rows sz rs)) (hr : rs.map (fun r => r.map zD) = rs') : Wk C ⟨sl, own⟩ ⟨sl, (e, .deep sz rs' []) :: own⟩ := by
  rintro a w ⟨β, S⟩
  refine ⟨β, { S with hr := { S.hr with own := ?_ } }⟩
  intro k ob hk
  rw [get_cons] at hk
  split at hk
  · rename_i hke; subst hke; cases hk
    have hob := S.hr.own _ _ he
    subst hr
    cases hb : β e with
    | none =>
      rw [hb] at hob
      have : rs = [] := hob
      subst this; exact ⟨rfl, rfl⟩
    | some b =>
      rw [hb] at hob
      obtain ⟨c, ty, fr, h1, h2, h3, h4⟩ := hob
      refine ⟨c, ty, fr, h1, h2, by rw [List.length_map]; exact h3, fun i r hi => ?_, ?_⟩
      · rw [List.getElem?_map, Option.map_eq_some_iff] at hi
        obtain ⟨q, hq, rfl⟩ := hi
        obtain ⟨g1, g2⟩ := h4 i q hq
        refine ⟨by rw [List.length_map]; exact g1, fun j x hj => ?_⟩
        rw [List.getElem?_map, Option.map_eq_some_iff] at hj
        obtain ⟨y, hy, rfl⟩ := hj
        obtain ⟨v, g3, g4⟩ := g2 j y hy
        exact ⟨v, g3, zD_cell g4⟩
      · intro i j i' j' n xs n' xs' hc _ _
        unfold cellAt at hc
        rw [List.getElem?_map] at hc
        cases hq : rs[i]? with
        | none => rw [hq] at hc; cases hc
        | some r =>
          rw [hq] at hc
          simp only [Option.map_some, List.getElem?_map, Option.map_eq_some_iff] at hc
          obtain ⟨y, _, hy⟩ := hc
          exact absurd hy zD_sl
  · exact S.hr.own k ob hk
theorem q_load1_hole {st : St} {x : XA} {e sz i o k m : Nat} {rs xs : List (List D)} {hs : List (Nat × Nat × Nat)} {r : List D} (hx : evA st.sl x = some (.rptr e sz i o)) (he : get st.own e = some (.deep sz rs hs))
    (hr : rs[i]? = some r) (hc : r[o]? = some (.sl m xs)) (hh : hole hs i o = some k) : QStep C st (.load1 x) (.osl k m 0 xs.length) := by
  intro op hfit ac w β S
  simp only [fits] at hfit
  split at hfit
  · rename_i t y ho
    simp only [Bool.and_eq_true] at hfit
    have h2 := AR_of_fitA S hfit.2 hx
    rw [AR] at h2
    obtain ⟨b, hb, h2⟩ := h2
    have hob := S.hr.own e _ he
    rw [hb] at hob
    obtain ⟨cc, ty, fr, h3, h4, h5, h6, h7⟩ := hob
    obtain ⟨u, h8, h9⟩ := (h6 i r hr).2 o _ hc
    rw [hh] at h9
    have hcell : w.cell? ⟨b, i * sz + o, none⟩ = some u := by unfold World.cell?; simp only [h3]; exact h8
    refine ⟨u, ?_, fun w' hw' => ?_⟩
    · rw [AR]
      obtain ⟨a, cap, g1, g2, g3⟩ := h9
      refine ⟨a, cap, g1, g2, g3.imp id ?_⟩
      rintro ⟨b', c', ty', fr', q1, q2, q3, q4⟩
      exact ⟨b', c', ty', fr', q1, by rw [q2, Nat.zero_mul], q3, by rw [Nat.zero_add]; exact q4⟩
    · simp only [execOp, ho, h2, Sem.run_bind, loadOne hfit.1 (hw'.cell hcell)]
      rfl
  · cases hfit
/-- An own slice that stands in a cell is hidden behind it. -/
theorem wk_close (e k i j : Nat) {sz m : Nat} {rs xs ys : List (List D)} {row : List D} {hs : List (Nat × Nat × Nat)} (he : get own e = some (.deep sz rs ((i, j, k) :: hs))) (hk : get own k = some (.rows m ys)) (hr : rs[i]? = some row) (hj : row[j]? = some (.sl m xs)) (hl : ys.length = xs.length)
    (hf : ∀ r ∈ ys, r.all flatS = true) (hh : hole hs i j = none) (hks : hs.all (fun h => !Nat.beq k h.2.2) = true) (hn : Nat.ble (k + 1) 1000 = true) :
    Wk C ⟨sl, own⟩ ⟨dropR k sl, (e, .deep sz (rs.set i (row.set j (.sl m ys))) hs) :: dropO k (outO [k] own)⟩ := by
  rintro a w ⟨β, S⟩
  have hn := Nat.le_of_ble_eq_true hn
  have hke : k ≠ e := fun h => by subst h; rw [he] at hk; cases hk
  let β' : Names := ⟨fun n => if n = k then none else β n, fun e' j' => if e' = e then shN (β k) (β.hd e) j' else β.hd e' j'⟩
  have hnm : ∀ n, n ≠ k → β' n = β n := fun n h => by show (if n = k then none else β n) = _; rw [if_neg h]
  have hnb : ∀ n b, β' n = some b → β n = some b ∧ n ≠ k := fun n b h => by
    change (if n = k then none else β n) = some b at h
    split at h
    · cases h
    · rename_i hne; exact ⟨h, hne⟩
  have hhd : ∀ e' j' b, β'.hd e' j' = some b → (e' = e ∧ β k = some b) ∨ ∃ j2, β.hd e' j2 = some b := fun e' j' b h => by
    change (if e' = e then shN (β k) (β.hd e) j' else β.hd e' j') = some b at h
    split at h
    · rename_i q; subst q
      cases j' with
      | zero => exact .inl ⟨rfl, h⟩
      | succ j' => exact .inr ⟨j', h⟩
    · exact .inr ⟨j', h⟩
  have hup : ∀ j' b, β.hd e j' = some b → ∃ j2, β'.hd e j2 = some b := fun j' b h => ⟨j' + 1, by
    show (if e = e then shN (β k) (β.hd e) (j' + 1) else β.hd e (j' + 1)) = some b
    rw [if_pos rfl]; exact h⟩
  have hoth : ∀ e' j', e' ≠ e → β'.hd e' j' = β.hd e' j' := fun e' j' h => by
    show (if e' = e then shN (β k) (β.hd e) j' else β.hd e' j') = _
    rw [if_neg h]
  have hown : ∀ b, ownd β' b → ownd β b := fun b h => by
    rcases h with ⟨n, h⟩ | ⟨e', j', h⟩
    · exact .inl ⟨n, (hnb n b h).1⟩
    · rcases hhd e' j' b h with ⟨_, h⟩ | ⟨j2, h⟩
      · exact .inl ⟨k, h⟩
      · exact .inr ⟨e', j2, h⟩
  have hok : ∀ b, okf C.X β b → okf C.X β' b := fun b h => ⟨fun hx => by
    rcases hx with hx | ⟨e', j', hx⟩
    · exact h.1 (.inl hx)
    · rcases hhd e' j' b hx with ⟨_, hx⟩ | ⟨j2, hx⟩
      · exact h.2 k hx
      · exact h.1 (.inr ⟨e', j2, hx⟩), fun n hx => h.2 n (hnb n b hx).1⟩
  have T : Tr C.X C.X (Nat.beq k) β β' w w := ⟨⟨Nat.le_refl _, fun _ _ _ => rfl, fun b hb _ => hok b hb⟩, fun n b hp h => by
    rw [hnm n (fun q => by subst q; simp at hp)]; exact h, fun _ _ c ty fr _ _ h => ⟨c, ty, fr, h, rfl⟩⟩
  refine ⟨β', { tsize := S.tsize, df := S.df, slots := ?_, hr := ?_, mine := fun b h => S.mine b (hown b h), stay := fun n h1 h2 => by rw [hnm n (by omega)]; exact S.stay n h1 h2, fr := S.fr, xlt := S.xlt }⟩
  · intro t z hz
    rcases dropR_get k sl t z hz with rfl | h2
    · rw [AR]; trivial
    · rw [get_pgS, Option.map_eq_some_iff] at h2
      obtain ⟨z', h3, rfl⟩ := h2
      exact AR.pg T z' _ (S.slots t z' h3)
  · refine ⟨fun n n' b h h' => S.hr.inj n n' b (hnb n b h).1 (hnb n' b h').1, fun n b h => S.hr.lt n b (hnb n b h).1, fun n b h hx => ?_, fun e' j' b h => ?_, fun e1 j1 e2 j2 b h h' => ?_, fun e' j' b h => ?_, fun n ob hg => ?_⟩
    · obtain ⟨q1, q2⟩ := hnb n b h
      rcases hx with hx | ⟨e', j', hx⟩
      · exact S.hr.notX n b q1 (.inl hx)
      · rcases hhd e' j' b hx with ⟨_, hx⟩ | ⟨j2, hx⟩
        · exact q2 (S.hr.inj n k b q1 hx)
        · exact S.hr.notX n b q1 (.inr ⟨e', j2, hx⟩)
    · rcases hhd e' j' b h with ⟨_, h⟩ | ⟨j2, h⟩
      · exact S.hr.lt k b h
      · exact S.hr.hlt e' j2 b h
    · rcases hhd e1 j1 b h with ⟨q, h⟩ | ⟨j3, h⟩ <;> rcases hhd e2 j2 b h' with ⟨q', h'⟩ | ⟨j4, h'⟩
      · rw [q, q']
      · exact absurd (.inr ⟨e2, j4, h'⟩) (S.hr.notX k b h)
      · exact absurd (.inr ⟨e1, j3, h⟩) (S.hr.notX k b h')
      · exact S.hr.hinj e1 j3 e2 j4 b h h'
    · rcases hhd e' j' b h with ⟨_, h⟩ | ⟨j2, h⟩
      · exact fun hx => S.hr.notX k b h (.inl hx)
      · exact S.hr.hX e' j2 b h
    · rw [get_cons] at hg
      split at hg
      · rename_i hne; subst hne; cases hg
        have hob := S.hr.own _ _ he
        rw [hnm e (fun h => hke h.symm)]
        cases hb : β e with
        | none => rw [hb] at hob; have := hob.2; cases this
        | some b =>
          rw [hb] at hob
          obtain ⟨c, ty, fr, h1, h2, h3, h4, h5⟩ := hob
          have hi := (List.getElem?_eq_some_iff.1 hr).1
          have hjl := (List.getElem?_eq_some_iff.1 hj).1
          have hcell : ∀ {i' j' : Nat} {x : D} {v : Value}, (i', j') ≠ (i, j) → CellD β w e (hole ((i, j, k) :: hs) i' j') x v → CellD β' w e (hole hs i' j') x v := fun {i' j' x v} hne h => by
            rw [hole_cons, if_neg (fun h => hne (by rw [h.1, h.2]))] at h
            refine h.sub hup (fun k2 b2 hk2 hb2 => ?_)
            have h6 := hole_some hk2
            have h7 := List.all_eq_true.1 hks _ h6
            rw [hnm k2 (fun q => by subst q; simp at h7)]; exact hb2
          refine ⟨c, ty, fr, h1, h2, by rw [List.length_set]; exact h3, fun i' r hi' => ?_, ?_⟩
          · rw [List.getElem?_set] at hi'
            by_cases q : i = i'
            · subst q
              rw [if_pos rfl, if_pos hi] at hi'
              simp only [Option.some.injEq] at hi'
              subst hi'
              obtain ⟨g1, g2⟩ := h4 i row hr
              refine ⟨by rw [List.length_set]; exact g1, fun j' x hj' => ?_⟩
              rw [List.getElem?_set] at hj'
              by_cases q : j = j'
              · subst q
                rw [if_pos rfl, if_pos hjl] at hj'
                simp only [Option.some.injEq] at hj'
                subst hj'
                obtain ⟨v, g3, g4⟩ := g2 j _ hj
                rw [hole_cons, if_pos ⟨rfl, rfl⟩] at g4
                rw [hh]
                refine ⟨v, g3, ?_⟩
                obtain ⟨a', cap, p1, p2, p3⟩ := g4
                refine ⟨a', cap, by rw [hl]; exact p1, by omega, p3.imp id ?_⟩
                rintro ⟨b', c', ty', fr', p4, p5, p6, p7⟩
                have hobk := S.hr.own _ _ hk
                rw [p4] at hobk
                obtain ⟨c2, ty2, fr2, r1, r2, r3, r4⟩ := hobk
                rw [p6] at r1; cases r1
                refine ⟨0, b', c', ty', fr', ?_, p5, p6, r2, p7, fun t r hr' => ?_⟩
                · show (if e = e then shN (β k) (β.hd e) 0 else β.hd e 0) = some b'
                  rw [if_pos rfl]; exact p4
                · obtain ⟨s1, s2⟩ := r4 t r hr'
                  refine ⟨s1, fun t' x hx => ?_⟩
                  obtain ⟨v', s3, s4⟩ := s2 t' x hx
                  exact ⟨v', s3, flatS_dr (List.all_eq_true.1 (hf r (List.mem_of_getElem? hr')) x (List.mem_of_getElem? hx)) s4⟩
              · rw [if_neg q] at hj'
                obtain ⟨v, g3, g4⟩ := g2 j' x hj'
                exact ⟨v, g3, hcell (fun h => q (Prod.mk.inj h).2.symm) g4⟩
            · rw [if_neg q] at hi'
              obtain ⟨g1, g2⟩ := h4 i' r hi'
              refine ⟨g1, fun j' x hj' => ?_⟩
              obtain ⟨v, g3, g4⟩ := g2 j' x hj'
              exact ⟨v, g3, hcell (fun h => q (Prod.mk.inj h).1.symm) g4⟩
          · have back : ∀ i' j' n' z, cellAt (rs.set i (row.set j (.sl m ys))) i' j' = some (.sl n' z) → ∃ n2 z2, cellAt rs i' j' = some (.sl n2 z2) := fun i' j' n' z h => by
              unfold cellAt at h ⊢
              rw [List.getElem?_set] at h
              by_cases q : i = i'
              · subst q
                rw [if_pos rfl, if_pos hi] at h
                simp only at h
                rw [hr]
                simp only
                rw [List.getElem?_set] at h
                by_cases q : j = j'
                · subst q; exact ⟨m, xs, hj⟩
                · rw [if_neg q] at h; exact ⟨_, _, h⟩
              · rw [if_neg q] at h; exact ⟨_, _, h⟩
            intro i1 j1 i2 j2 n1 z1 n2 z2 c1 c2 hne
            obtain ⟨_, _, d1⟩ := back _ _ _ _ c1
            obtain ⟨_, _, d2⟩ := back _ _ _ _ c2
            exact h5 i1 j1 i2 j2 _ _ _ _ d1 d2 hne
      · rename_i hne
        rw [dropO_eq, get_pgOs, Option.map_eq_some_iff] at hg
        obtain ⟨q, hq, rfl⟩ := hg
        obtain ⟨h1, h2⟩ := outO_get hq
        rw [hnm n (fun h => h1 (by rw [h]; exact List.mem_cons_self))]
        exact OBR.pg T (fun _ _ => rfl) (fun j' b hb => ⟨by rw [hoth n j' (fun h => hne h.symm)]; exact hb, rfl⟩) (S.hr.own n q h2)
/-- What is behind a cell is opened under a name. -/
theorem wk_open (e n i j : Nat) {sz m : Nat} {rs xs : List (List D)} {row : List D} {hs : List (Nat × Nat × Nat)} (he : get own e = some (.deep sz rs hs)) (hr : rs[i]? = some row) (hj : row[j]? = some (.sl m xs)) (hh : hole hs i j = none)
    (hn : Nat.ble (n + 1) 1000 = true) (h1 : nrS n sl = true) (h2 : nrOs n own = true) (hne : Nat.beq n e = false) :
    Wk C ⟨sl, own⟩ ⟨sl, (n, .rows m xs) :: (e, .deep sz rs ((i, j, n) :: hs)) :: own⟩ := by
  rintro a w ⟨β, S⟩
  have hn := Nat.le_of_ble_eq_true hn
  have hen : e ≠ n := fun h => by subst h; simp at hne
  have hob := S.hr.own _ _ he
  cases hb : β e with
  | none => rw [hb] at hob; have := hob.1; subst this; cases hr
  | some b =>
  rw [hb] at hob
  obtain ⟨c, ty, fr, g1, g2, g3, g4, g5⟩ := hob
  obtain ⟨v, g6, g7⟩ := (g4 i row hr).2 j _ hj
  rw [hh] at g7
  obtain ⟨ad, cap, p1, p2, p3⟩ := g7
  -- the block that is opened, if there is one
  obtain ⟨ob0, hob0⟩ : ∃ ob0 : Option Nat, (ob0 = none ∧ cap = 0) ∨ (∃ b0 j0 c0 ty0 fr0, ob0 = some b0 ∧ cap ≠ 0 ∧ β.hd e j0 = some b0 ∧ ad = some ⟨b0, 0, none⟩ ∧ w.heap[b0]? = some (.cells c0 ty0 fr0) ∧ thawS m fr0 c0.size ∧ cap * m ≤ c0.size ∧ RowsF w m xs c0) := by
    by_cases hc : cap = 0
    · exact ⟨none, .inl ⟨rfl, hc⟩⟩
    · rcases p3 with p3 | ⟨j0, b0, c0, ty0, fr0, q1, q2, q3, q4, q5, q6⟩
      · exact absurd p3 hc
      · exact ⟨some b0, .inr ⟨b0, j0, c0, ty0, fr0, rfl, hc, q1, q2, q3, q4, q5, q6⟩⟩
  have hob1 : ∀ b0, ob0 = some b0 → ∃ j0, β.hd e j0 = some b0 := fun b0 h => by
    rcases hob0 with ⟨q, _⟩ | ⟨b1, j0, _, _, _, q, _, q1, _⟩
    · rw [q] at h; cases h
    · rw [q] at h; cases h; exact ⟨j0, q1⟩
  let β' : Names := ⟨fun k => if k = n then ob0 else β k, fun e' j' => if e' = e ∧ β.hd e' j' = ob0 then none else β.hd e' j'⟩
  have hnm : ∀ k, k ≠ n → β' k = β k := fun k h => by show (if k = n then ob0 else β k) = _; rw [if_neg h]
  have hnn : β' n = ob0 := by show (if n = n then ob0 else β n) = _; rw [if_pos rfl]
  have hnb : ∀ k b, β' k = some b → (k = n ∧ ob0 = some b) ∨ (k ≠ n ∧ β k = some b) := fun k b h => by
    change (if k = n then ob0 else β k) = some b at h
    split at h
    · rename_i q; exact .inl ⟨q, h⟩
    · rename_i q; exact .inr ⟨q, h⟩
  have hhd : ∀ e' j' b, β'.hd e' j' = some b → β.hd e' j' = some b ∧ ¬ (e' = e ∧ ob0 = some b) := fun e' j' b h => by
    change (if e' = e ∧ β.hd e' j' = ob0 then none else β.hd e' j') = some b at h
    split at h
    · cases h
    · rename_i q; exact ⟨h, fun hh => q ⟨hh.1, by rw [h, hh.2]⟩⟩
  have hoth : ∀ e' j', e' ≠ e → β'.hd e' j' = β.hd e' j' := fun e' j' h => by
    show (if e' = e ∧ β.hd e' j' = ob0 then none else β.hd e' j') = _
    rw [if_neg (fun q => h q.1)]
  have hkeep : ∀ j' b, β.hd e j' = some b → ob0 ≠ some b → β'.hd e j' = some b := fun j' b h hne => by
    show (if e = e ∧ β.hd e j' = ob0 then none else β.hd e j') = _
    rw [if_neg (fun q => hne (by rw [← q.2, h]))]; exact h
  have hok : ∀ b, okf C.X β b → okf C.X β' b := fun b h => ⟨fun hx => h.1 (hx.imp id (fun ⟨e', j', hx⟩ => ⟨e', j', (hhd e' j' b hx).1⟩)), fun k hx => by
    rcases hnb k b hx with ⟨_, hx⟩ | ⟨_, hx⟩
    · obtain ⟨j0, hj0⟩ := hob1 b hx
      exact h.1 (.inr ⟨e, j0, hj0⟩)
    · exact h.2 k hx⟩
  have T : Tr C.X C.X (Nat.beq n) β β' w w := ⟨⟨Nat.le_refl _, fun _ _ _ => rfl, fun b hb _ => hok b hb⟩, fun k b hp h => by
    rw [hnm k (fun q => by subst q; simp at hp)]; exact h, fun _ _ c ty fr _ _ h => ⟨c, ty, fr, h, rfl⟩⟩
  refine ⟨β', { tsize := S.tsize, df := S.df, slots := ?_, hr := ?_, mine := fun b h => S.mine b ?_, stay := fun k h1 h2 => by rw [hnm k (by omega)]; exact S.stay k h1 h2, fr := S.fr, xlt := S.xlt }⟩
  · intro t z hz
    have := AR.pg T z _ (S.slots t z hz)
    rwa [pg_nr n z (nrS_get h1 hz)] at this
  · refine ⟨fun k k' b h h' => ?_, fun k b h => ?_, fun k b h hx => ?_, fun e' j' b h => S.hr.hlt e' j' b (hhd e' j' b h).1, fun e1 j1 e2 j2 b h h' => S.hr.hinj e1 j1 e2 j2 b (hhd e1 j1 b h).1 (hhd e2 j2 b h').1, fun e' j' b h => S.hr.hX e' j' b (hhd e' j' b h).1, fun k ob hg => ?_⟩
    · rcases hnb k b h with ⟨q, h⟩ | ⟨q, h⟩ <;> rcases hnb k' b h' with ⟨q', h'⟩ | ⟨q', h'⟩
      · rw [q, q']
      · obtain ⟨j0, hj0⟩ := hob1 b h
        exact absurd (.inr ⟨e, j0, hj0⟩) (S.hr.notX k' b h')
      · obtain ⟨j0, hj0⟩ := hob1 b h'
        exact absurd (.inr ⟨e, j0, hj0⟩) (S.hr.notX k b h)
      · exact S.hr.inj k k' b h h'
    · rcases hnb k b h with ⟨_, h⟩ | ⟨_, h⟩
      · obtain ⟨j0, hj0⟩ := hob1 b h
        exact S.hr.hlt e j0 b hj0
      · exact S.hr.lt k b h
    · rcases hnb k b h with ⟨_, h⟩ | ⟨_, h⟩
      · obtain ⟨j0, hj0⟩ := hob1 b h
        rcases hx with hx | ⟨e', j', hx⟩
        · exact S.hr.hX e j0 b hj0 hx
        · obtain ⟨q1, q2⟩ := hhd e' j' b hx
          exact q2 ⟨S.hr.hinj e' j' e j0 b q1 hj0, h⟩
      · exact S.hr.notX k b h (hx.imp id (fun ⟨e', j', hx⟩ => ⟨e', j', (hhd e' j' b hx).1⟩))
    · rw [get_cons] at hg
      split at hg
      · rename_i hk; subst hk; cases hg
        rw [hnn]
        rcases hob0 with ⟨q, hc⟩ | ⟨b0, j0, c0, ty0, fr0, q, hc, q1, q2, q3, q4, q5, q6⟩
        · rw [q]; exact List.eq_nil_of_length_eq_zero (by omega)
        · rw [q]
          refine ⟨c0, ty0, fr0, q3, q4, Nat.le_trans (Nat.mul_le_mul_right _ p2) q5, fun t r ht => ?_⟩
          obtain ⟨s1, s2⟩ := q6 t r ht
          exact ⟨s1, fun t' x hx => by
            obtain ⟨v', s3, s4⟩ := s2 t' x hx
            exact ⟨v', s3, flat_any s4⟩⟩
      · rename_i hk
        rw [get_cons] at hg
        split at hg
        · rename_i hke; subst hke; cases hg
          rw [hnm e hen, hb]
          refine ⟨c, ty, fr, g1, g2, g3, fun i' r hi' => ?_, g5⟩
          obtain ⟨s1, s2⟩ := g4 i' r hi'
          refine ⟨s1, fun j' x hj' => ?_⟩
          obtain ⟨u, s3, s4⟩ := s2 j' x hj'
          refine ⟨u, s3, ?_⟩
          rw [hole_cons]
          by_cases q : i = i' ∧ j = j'
          · rw [if_pos q]
            obtain ⟨rfl, rfl⟩ := q
            rw [hr] at hi'; cases hi'
            rw [hj] at hj'; cases hj'
            rw [g6] at s3; cases s3
            refine ⟨ad, cap, p1, p2, ?_⟩
            rcases hob0 with ⟨_, hc⟩ | ⟨b0, j0, c0, ty0, fr0, q, hc, q1, q2, q3, q4, q5, q6⟩
            · exact .inl hc
            · exact .inr ⟨b0, c0, ty0, fr0, by rw [hnn, q], q2, q3, q5⟩
          · rw [if_neg q]
            cases hq : hole hs i' j' with
            | some k2 =>
              rw [hq] at s4
              refine s4.some ?_
              have h6 := hole_some hq
              have h7 := nrOs_get h2 he
              rw [nrO] at h7
              have h8 := List.all_eq_true.1 h7 _ h6
              exact hnm k2 (fun q => by subst q; simp at h8)
            | none =>
              rw [hq] at s4
              cases x with
              | sl m2 xs2 =>
                obtain ⟨a2, cap2, r1, r2, r3⟩ := s4
                refine ⟨a2, cap2, r1, r2, ?_⟩
                by_cases hc2 : cap2 = 0
                · exact .inl hc2
                · rcases r3 with r3 | ⟨j2, b2, c2, ty2, fr2, t1, t2, t3⟩
                  · exact .inl r3
                  · refine .inr ⟨j2, b2, c2, ty2, fr2, hkeep j2 b2 t1 (fun hbb => ?_), t2, t3⟩
                    rcases hob0 with ⟨qq, _⟩ | ⟨b0, j0, c0, ty0, fr0, qq, hc, q1, q2, _⟩
                    · rw [qq] at hbb; cases hbb
                    · rw [qq] at hbb; cases hbb
                      have e1 : cellAt rs i j = some (.sl m xs) := by unfold cellAt; rw [hr]; exact hj
                      have e2 : cellAt rs i' j' = some (.sl m2 xs2) := by unfold cellAt; rw [hi']; exact hj'
                      rw [p1, q2] at g6
                      rw [r1, t2] at s3
                      exact g5 i j i' j' m xs m2 xs2 e1 e2 (fun h => q (by cases h; exact ⟨rfl, rfl⟩)) _ _ _ _ _ _ g6 s3 hc hc2 rfl
              | int _ _ => exact s4
              | bool _ => exact s4
              | str _ => exact s4
              | ip _ => exact s4
              | fn _ _ => exact s4
              | nilp => exact s4
        · rename_i hke
          rw [hnm k (fun h => hk h.symm)]
          have := OBR.pg T (b := β k) (fun _ _ => rfl) (fun j' b' hb' => ⟨by rw [hoth k j' (fun h => hke h.symm)]; exact hb', rfl⟩) (S.hr.own k ob hg)
          rwa [pgO_nr n ob (nrOs_get h2 hg)] at this
  · rcases h with ⟨k, h⟩ | ⟨e', j', h⟩
    · rcases hnb k b h with ⟨_, h⟩ | ⟨_, h⟩
      · obtain ⟨j0, hj0⟩ := hob1 b h
        exact .inr ⟨e, j0, hj0⟩
      · exact .inl ⟨k, h⟩
    · exact .inr ⟨e', j', (hhd e' j' b h).1⟩
end
end Go.AM

namespace Go.AM
set_option linter.unusedVariables false
theorem set_same {α : Type} {l : List α} {k : Nat} {r : α} (h : l[k]? = some r) : l.set k r = l := by
  obtain ⟨h1, rfl⟩ := List.getElem?_eq_some_iff.1 h
  exact List.set_getElem_self h1
theorem mid_get {α : Type} {pre tl : List α} {r : α} {k : Nat} (h : pre.length = k) : (pre ++ r :: tl)[k]? = some r := by
  subst h; rw [List.getElem?_append_right (Nat.le_refl _), Nat.sub_self]; rfl
theorem mid_set {α : Type} {pre tl : List α} {r r' : α} {k : Nat} (h : pre.length = k) : (pre ++ r :: tl).set k r' = pre ++ r' :: tl := by
  subst h; rw [List.set_append_right _ _ (Nat.le_refl _), Nat.sub_self]; rfl
theorem nn_map {α : Type} {row : α → List D} (h : ∀ x, (row x).all noNil = true) {xs : List α} : ∀ r ∈ xs.map row, r.all noNil = true := by
  intro r hr
  obtain ⟨x, _, rfl⟩ := List.mem_map.1 hr
  exact h x
theorem flat_map {α : Type} {row : α → List D} (h : ∀ x, (row x).all flatS = true) {xs : List α} : ∀ r ∈ xs.map row, r.all flatS = true := by
  intro r hr
  obtain ⟨x, _, rfl⟩ := List.mem_map.1 hr
  exact h x
section
variable {C : Cx} {sl : List (Nat × AV)} {own : List (Nat × OB)}
/-- A cell of a row is written. -/
theorem e_strDf {e sz i o : Nat} {x y : XA} {c : D} {rs rs' : List (List D)} {row : List D} (hx : evA sl x = some (.rptr e sz i o)) (he : get own e = some (.deep sz rs []))
    (hy : evA sl y = some (.d c)) (hc : cellsA (.d c) = some [.d c]) (hf : flatS c = true) (hr : rs[i]? = some row) (hl : Nat.ble (o + 1) sz = true) (hrs : rs.set i (setL row o [c]) = rs') :
    EStep C ⟨sl, own⟩ none (.store 1 x y) ⟨sl, (e, .deep sz rs' []) :: own⟩ := by
  have := e_strD (C := C) hx he hy hc (ds := [c]) (ks := []) (.flat (.flat hf) .nil) (by simp) rfl hr hl
  rwa [hrs] at this
/-- A row is written. -/
theorem e_strDr {n e sz i o : Nat} {x y : XA} {v : AV} {rs rs' : List (List D)} {row : List D} {cs : List AV} {ds : List D} {ks : List (Nat × Nat)} (hx : evA sl x = some (.rptr e sz i o)) (he : get own e = some (.deep sz rs []))
    (hy : evA sl y = some v) (hc : cellsA v = some cs) (hds : DCL own o cs ds ks) (hd : (ks.map Prod.snd).Nodup) (hn : Nat.beq ds.length n = true) (hr : rs[i]? = some row) (hl : Nat.ble (o + n) sz = true) (hrs : rs.set i (setL row o ds) = rs') :
    EStep C ⟨sl, own⟩ none (.store n x y) ⟨sl, (e, .deep sz rs' (holesAt i ks)) :: own⟩ := by
  have := e_strD (C := C) hx he hy hc hds hd hn hr hl
  rwa [hrs] at this
theorem wk_closeE (e k i j : Nat) {sz m : Nat} {rs rs' xs ys : List (List D)} {row : List D} {hs : List (Nat × Nat × Nat)} (he : get own e = some (.deep sz rs ((i, j, k) :: hs))) (hk : get own k = some (.rows m ys)) (hr : rs[i]? = some row) (hj : row[j]? = some (.sl m xs)) (hl : ys.length = xs.length)
    (hf : ∀ r ∈ ys, r.all flatS = true) (hh : hole hs i j = none) (hks : hs.all (fun h => !Nat.beq k h.2.2) = true) (hn : Nat.ble (k + 1) 1000 = true) (hrs : rs.set i (row.set j (.sl m ys)) = rs') :
    Wk C ⟨sl, own⟩ ⟨dropR k sl, (e, .deep sz rs' hs) :: dropO k (outO [k] own)⟩ := by
  rw [← hrs]
  exact wk_close e k i j he hk hr hj hl hf hh hks hn
end
end Go.AM

namespace Go.AM
set_option linter.unusedVariables false
/-- A record's bytes. -/
def rbF (r : GLogRecord) : Str := sealB (putFs [108, byteOf r.Epoch, byteOf r.Lsn, byteOf r.Tx, byteOf r.Kind, byteOf r.Prev, byteOf r.Next, byteOf r.Page, byteOf r.Slot] [r.Before, r.After])
end Go.AM

namespace Go.AM
set_option linter.unusedVariables false
set_option linter.unusedSimpArgs false
/-- What a page's sector tells, below what is sure. -/
def PT (no : Nat) (su : Int) (t : Str) : Prop := t = [] ∨ ∃ p : Page, PG p ∧ p.lsn ≤ su ∧ t = pbF no p
theorem PT.mono {no : Nat} {su sv : Int} {t : Str} (h : PT no su t) (hs : su ≤ sv) : PT no sv t := by
  rcases h with h | ⟨p, h1, h2, h3⟩
  · exact .inl h
  · exact .inr ⟨p, h1, by omega, h3⟩
/-- A drawn record. -/
structure DrR (r : GLogRecord) (i : Nat) : Prop where
  ok : recP r
  ls : r.Lsn = (i : Int) + 1
  ep : r.Epoch = 1
  kd : r.Kind ≤ 5
theorem DrR.sh {r : GLogRecord} {i : Nat} (h : DrR r i) : r.Before.length ≤ 30 ∧ r.After.length ≤ 30 := by
  have h1 := h.ok; have h2 := h.kd
  unfold recP at h1
  obtain ⟨_, h1 | ⟨_, h1 | h1 | h1⟩⟩ := h1
  · omega
  · exact ⟨h1.2.2.2.2.2.1, h1.2.2.2.2.2.2.1⟩
  · obtain ⟨_, _, _, _, _, h3, h4, _⟩ := h1; rw [h3]; exact ⟨Nat.zero_le _, h4⟩
  · obtain ⟨_, _, _, _, _, h3, h4⟩ := h1; rw [h3, h4]; exact ⟨Nat.zero_le _, Nat.zero_le _⟩
structure FR (n : Nat) (f : GFrame) : Prop where
  no : 0 ≤ f.No ∧ f.No ≤ 7
  pg : PG f.Page
  ls : f.Page.lsn ≤ n
  fi : 0 ≤ f.First ∧ f.First ≤ n
  di : f.Dirty = decide (0 < f.First)
structure DKs (d : GDisk) (log : List GLogRecord) (su : Int) (m : Nat) : Prop where
  dok : DOK d
  ar : d.Armed = false
  se : d.Sectors.length = 69
  sg : ∀ i, i < 60 → d.Sectors.getD (9 + i) [] = if (i : Int) < su then rbF (log.getD i .zero) else []
  ca : ∀ p ∈ d.Cache, 1 ≤ p.At ∧ p.At ≤ 8
  cm : d.Cache.length ≤ m
  pg : ∀ no, no < 8 → PT no su (d.Sectors.getD (1 + no) [])
  pc : ∀ no, no < 8 → ∀ p ∈ d.Cache, p.At = ((1 + no : Nat) : Int) → PT no su p.Data
structure FKs (fs : List GFrame) (n : Nat) : Prop where
  fr : ∀ f ∈ fs, FR n f
  nd : (fs.map GFrame.No).Nodup
  fl : fs.length ≤ 3
structure DI (s : GStore) (m : Nat) : Prop where
  dk : DKs s.Disk s.Log s.Sure m
  ep : s.Epoch = 1
  lm : s.Log.length ≤ m
  su : 0 ≤ s.Sure ∧ s.Sure ≤ s.Log.length
  rc : ∀ i (h : i < s.Log.length), DrR s.Log[i] i
  fk : FKs s.Frames s.Log.length
  hd : 0 ≤ s.Hand ∧ s.Hand ≤ 2
theorem DI.mono {s : GStore} {m n : Nat} (h : DI s m) (hm : m ≤ n) : DI s n :=
  ⟨⟨h.dk.dok, h.dk.ar, h.dk.se, h.dk.sg, h.dk.ca, Nat.le_trans h.dk.cm hm, h.dk.pg, h.dk.pc⟩, h.ep, Nat.le_trans h.lm hm, h.su, h.rc, h.fk, h.hd⟩
theorem lastW_all {C : List GPending} {i : Int} {P : Str → Prop} (h : ∀ p ∈ C, p.At = i → P p.Data) : ∀ {t : Str}, P t → P (lastW C i t) := by
  unfold lastW
  induction C with
  | nil => exact fun ht => ht
  | cons p C ih =>
    intro t ht
    rw [List.foldl_cons]
    refine ih (fun q hq => h q (List.mem_cons_of_mem _ hq)) ?_
    split
    · rename_i e; exact h p (List.mem_cons_self ..) e
    · exact ht
theorem l3_pb {no : Nat} (hn : no < 8) {p : Page} (h : PG p) : pageT no (pbF no p) = (p, true) := by
  have hl := pb_len (no := no) h
  have h1 := rp_pb (no := (no : Int)) (nx := (no : Int)) h (by omega)
  rw [if_pos rfl] at h1
  obtain ⟨e1, e2⟩ := pg_same (no := (no : Int)) (t := pbF no p) (by omega)
  have e3 := e1.1 (by rw [h1])
  have e4 := e2 e3
  rw [h1] at e4
  have hne : ¬ pbF no p = [] := fun q => by
    have : (pbF no p).length = 0 := by rw [q]; rfl
    unfold pbF at this; rw [seal_len] at this; omega
  rw [pageT_1 hne]
  exact Prod.ext e4.symm e3
theorem pt_page {no : Nat} (hn : no < 8) {su : Int} (h0 : 0 ≤ su) {t : Str} (h : PT no su t) : (pageT no t).2 = true ∧ PG (pageT no t).1 ∧ (pageT no t).1.lsn ≤ su := by
  rcases h with h | ⟨p, h1, h2, h3⟩
  · rw [pageT_0 h]; exact ⟨rfl, ⟨rfl, nil4, ⟨Int.le_refl _, by show (0 : Int) ≤ 1000; omega⟩⟩, h0⟩
  · rw [h3, l3_pb hn h1]; exact ⟨rfl, h1, h2⟩
theorem DKs.txt {d : GDisk} {log : List GLogRecord} {su : Int} {m no : Nat} (h : DKs d log su m) (hn : no < 8) : PT no su (txtD d (1 + no)) := lastW_all (h.pc no hn) (h.pg no hn)
theorem DI.page {s : GStore} {m no : Nat} (h : DI s m) (hn : no < 8) : (pageD s.Disk no).2 = true ∧ PG (pageD s.Disk no).1 ∧ (pageD s.Disk no).1.lsn ≤ s.Sure := pt_page hn h.su.1 (h.dk.txt hn)
theorem FKs.set {fs : List GFrame} {n k : Nat} {f : GFrame} (h : FKs fs n) (hk : k < fs.length) (hf : FR n f) (hn : f.No = fs[k].No) : FKs (fs.set k f) n := by
  refine ⟨fun g hg => ?_, ?_, by rw [List.length_set]; exact h.fl⟩
  · rcases List.mem_or_eq_of_mem_set hg with q | q
    · exact h.fr g q
    · rw [q]; exact hf
  · rw [List.map_set, hn, show fs[k].No = (fs.map GFrame.No)[k]'(by rw [List.length_map]; exact hk) from (List.getElem_map ..).symm, List.set_getElem_self]; exact h.nd
theorem nodup_set {l : List Int} : ∀ {k : Nat} {x : Int}, l.Nodup → x ∉ l → (l.set k x).Nodup := by
  induction l with
  | nil => intro k x _ _; exact List.nodup_nil
  | cons a l ih =>
    intro k x h hx
    rw [List.nodup_cons] at h
    rw [List.mem_cons, not_or] at hx
    cases k with
    | zero => exact List.nodup_cons.2 ⟨hx.2, h.2⟩
    | succ k =>
      rw [List.set_cons_succ, List.nodup_cons]
      refine ⟨fun q => ?_, ih h.2 hx.2⟩
      rcases List.mem_or_eq_of_mem_set q with q | q
      · exact h.1 q
      · exact hx.1 q.symm
theorem FKs.put {fs : List GFrame} {n k : Nat} {f : GFrame} (h : FKs fs n) (hf : FR n f) (hn : ∀ g ∈ fs, g.No ≠ f.No) : FKs (fs.set k f) n := by
  refine ⟨fun g hg => ?_, ?_, by rw [List.length_set]; exact h.fl⟩
  · rcases List.mem_or_eq_of_mem_set hg with q | q
    · exact h.fr g q
    · rw [q]; exact hf
  · rw [List.map_set]
    exact nodup_set h.nd (fun q => by obtain ⟨g, hg, e⟩ := List.mem_map.1 q; exact hn g hg e)
theorem FKs.add {fs : List GFrame} {n : Nat} {f : GFrame} (h : FKs fs n) (hl : fs.length ≤ 2) (hf : FR n f) (hn : ∀ g ∈ fs, g.No ≠ f.No) : FKs (fs ++ [f]) n := by
  refine ⟨fun g hg => ?_, ?_, by simp; omega⟩
  · rcases List.mem_append.1 hg with q | q
    · exact h.fr g q
    · rw [List.mem_singleton.1 q]; exact hf
  · rw [List.map_append, List.nodup_append]
    refine ⟨h.nd, by simp, fun a ha b hb => ?_⟩
    obtain ⟨g, hg, e⟩ := List.mem_map.1 ha
    have e2 : b = f.No := List.mem_singleton.1 hb
    rw [e2, ← e]; exact hn g hg
theorem FKs.mono {fs : List GFrame} {n m : Nat} (h : FKs fs n) (hm : n ≤ m) : FKs fs m :=
  ⟨fun f hf => ⟨(h.fr f hf).no, (h.fr f hf).pg, by have := (h.fr f hf).ls; omega, by have := (h.fr f hf).fi; omega, (h.fr f hf).di⟩, h.nd, h.fl⟩
theorem frame_yes {s : GStore} {no : Int} (h : 0 ≤ frameAt s no) : ∃ k : Nat, frameAt s no = k ∧ ∃ hk : k < s.Frames.length, s.Frames[k].No = no := by
  obtain ⟨i, h1, hi, h2, _⟩ := idxOf_some (p := fun f : GFrame => decide (f.No = no)) (xs := s.Frames) (by unfold frameAt at h; omega)
  exact ⟨i, h1, hi, of_decide_eq_true h2⟩
theorem DKs.wr {d : GDisk} {log : List GLogRecord} {su : Int} {m no : Nat} {p : Page} (h : DKs d log su m) (hm : m < 100) (hn : no < 8) (hp : PG p) (hl : p.lsn ≤ su) : DKs (wrD d (1 + (no : Int)) (pbF no p)) log su (m + 1) :=
  ⟨wrD_ok h.dok (by have := h.se; omega) (pb_len hp) (by have := h.cm; omega), h.ar, h.se, h.sg, fun q hq => by
      rcases List.mem_append.1 hq with w | w
      · exact h.ca q w
      · rw [List.mem_singleton.1 w]; show 1 ≤ 1 + (no : Int) ∧ 1 + (no : Int) ≤ 8; omega,
   by show (d.Cache ++ _).length ≤ _; have := h.cm; simp; omega, h.pg, fun x hx q hq e => by
      rcases List.mem_append.1 hq with w | w
      · exact h.pc x hx q w e
      · rw [List.mem_singleton.1 w] at e ⊢
        have e : 1 + (no : Int) = ((1 + x : Nat) : Int) := e
        obtain rfl : no = x := by omega
        exact .inr ⟨p, hp, hl, rfl⟩⟩
end Go.AM

namespace Go.AM
set_option linter.unusedVariables false
theorem sortedI_one : ∀ {l l' : List Int}, l.Perm l' → l.Pairwise (· ≤ ·) → l'.Pairwise (· ≤ ·) → l = l'
  | [], l', hp, _, _ => (List.Perm.nil_eq hp)
  | a :: l, [], hp, _, _ => by have := hp.length_eq; simp at this
  | a :: l, b :: l', hp, h1, h2 => by
    have hab : a ≤ b := by
      rcases List.mem_cons.1 (hp.mem_iff.2 (List.mem_cons_self : b ∈ b :: l')) with q | q
      · omega
      · exact (List.pairwise_cons.1 h1).1 b q
    have hba : b ≤ a := by
      rcases List.mem_cons.1 (hp.mem_iff.1 (List.mem_cons_self : a ∈ a :: l)) with q | q
      · omega
      · exact (List.pairwise_cons.1 h2).1 a q
    obtain rfl : a = b := by omega
    rw [sortedI_one (List.Perm.cons_inv hp) (List.pairwise_cons.1 h1).2 (List.pairwise_cons.1 h2).2]
/-- All pairs up to i stand in order, but those whose second stands at j. -/
def InsI (l : List Int) (i j : Nat) : Prop := ∀ p q, p < q → q ≤ i → q ≠ j → l.getD p 0 ≤ l.getD q 0
def SrtI (l : List Int) (i : Nat) : Prop := ∀ p q, p < q → q < i → l.getD p 0 ≤ l.getD q 0
theorem getDI_set {l : List Int} {i k : Nat} {x : Int} (hi : i < l.length) : (l.set i x).getD k 0 = if k = i then x else l.getD k 0 := by
  simp only [List.getD_eq_getElem?_getD, List.getElem?_set]
  by_cases h : i = k
  · subst h; simp [hi]
  · rw [if_neg h, if_neg (fun e => h e.symm)]
theorem insI_0 {l : List Int} {i : Nat} (h : SrtI l i) : InsI l i i := fun p q h1 h2 h3 => h p q h1 (by omega)
theorem insI_s {l : List Int} {i j : Nat} (h : InsI l i j) (hj0 : 0 < j) (hj : j ≤ i) (hi : i < l.length) (hlt : l.getD j 0 < l.getD (j - 1) 0) : InsI ((l.set j (l.getD (j - 1) 0)).set (j - 1) (l.getD j 0)) i (j - 1) := by
  intro p q h1 h2 h3
  have e : ∀ k, ((l.set j (l.getD (j - 1) 0)).set (j - 1) (l.getD j 0)).getD k 0 = if k = j - 1 then l.getD j 0 else if k = j then l.getD (j - 1) 0 else l.getD k 0 := fun k => by
    rw [getDI_set (by rw [List.length_set]; omega), getDI_set (by omega)]
  rw [e p, e q, if_neg h3]
  by_cases hq : q = j
  · subst hq
    rw [if_pos rfl]
    by_cases hp : p = q - 1
    · rw [if_pos hp]; omega
    · rw [if_neg hp, if_neg (by omega)]
      exact h p (q - 1) (by omega) (by omega) (by omega)
  · rw [if_neg hq]
    by_cases hp : p = j - 1
    · rw [if_pos hp]
      have := h (j - 1) q (by omega) h2 hq
      omega
    · rw [if_neg hp]
      by_cases hpj : p = j
      · rw [if_pos hpj]; exact h (j - 1) q (by omega) h2 hq
      · rw [if_neg hpj]; exact h p q h1 h2 hq
theorem insI_e {l : List Int} {i j : Nat} (h : InsI l i j) (hj : j ≤ i) (hs : j = 0 ∨ l.getD (j - 1) 0 ≤ l.getD j 0) : SrtI l (i + 1) := by
  intro p q h1 h2
  by_cases hq : q = j
  · subst hq
    rcases hs with hs | hs
    · omega
    · by_cases hp : p = q - 1
      · rw [hp]; exact hs
      · exact Int.le_trans (h p (q - 1) (by omega) (by omega) (by omega)) hs
  · exact h p q h1 (by omega) hq
theorem insI_perm {l : List Int} {j : Nat} (hj0 : 0 < j) (hj : j < l.length) : ((l.set j (l.getD (j - 1) 0)).set (j - 1) (l.getD j 0)).Perm l := by
  have e1 : l.getD (j - 1) 0 = l[j - 1] := by simp [List.getD_eq_getElem?_getD, show j - 1 < l.length from by omega]
  have e2 : l.getD j 0 = l[j] := by simp [List.getD_eq_getElem?_getD, hj]
  rw [e1, e2]
  exact List.set_set_perm hj (by omega)
theorem srtI_1 {l : List Int} : SrtI l 1 := fun p q h1 h2 => by omega
theorem srtI_pw {l : List Int} {i : Nat} (h : SrtI l i) (hi : l.length ≤ i) : l.Pairwise (· ≤ ·) := by
  rw [List.pairwise_iff_getElem]
  intro p q hp hq hpq
  have := h p q hpq (by omega)
  simpa [List.getD_eq_getElem?_getD, hp, hq] using this
def dl (fs : List GFrame) : List Int := (fs.filter (fun f => f.Dirty)).map (fun f => f.No)
def dirtyAt (s : GStore) (no : Int) : Bool := decide (0 ≤ frameAt s no) && (s.Frames.getD (frameAt s no).toNat .zero).Dirty
def dsp (s : GStore) (k : Nat) : List Int := ((List.range k).filter (fun n : Nat => dirtyAt s (n : Int))).map (fun n : Nat => (n : Int))
theorem dl_t {fs : List GFrame} {k : Nat} (hk : k < fs.length) (h : fs[k].Dirty = true) : dl (fs.take (k + 1)) = dl (fs.take k) ++ [fs[k].No] := by
  unfold dl; rw [List.take_succ_eq_append_getElem hk, List.filter_append, List.map_append, List.filter_cons, if_pos h]; rfl
theorem dl_f {fs : List GFrame} {k : Nat} (hk : k < fs.length) (h : fs[k].Dirty = false) : dl (fs.take (k + 1)) = dl (fs.take k) := by
  unfold dl; rw [List.take_succ_eq_append_getElem hk, List.filter_append, List.map_append, List.filter_cons, if_neg (by rw [h]; simp)]; simp
theorem dl_le {fs : List GFrame} : (dl fs).length ≤ fs.length := by unfold dl; rw [List.length_map]; exact List.length_filter_le _ _
theorem dsp_t {s : GStore} {k : Nat} (h : dirtyAt s (k : Int) = true) : dsp s (k + 1) = dsp s k ++ [(k : Int)] := by
  unfold dsp; rw [List.range_succ, List.filter_append, List.map_append, List.filter_cons, if_pos h]; rfl
theorem dsp_f {s : GStore} {k : Nat} (h : dirtyAt s (k : Int) = false) : dsp s (k + 1) = dsp s k := by
  unfold dsp; rw [List.range_succ, List.filter_append, List.map_append, List.filter_cons, if_neg (by rw [h]; simp)]; simp
theorem dsp_le {s : GStore} {k : Nat} : (dsp s k).length ≤ k := by unfold dsp; rw [List.length_map]; exact Nat.le_trans (List.length_filter_le _ _) (by simp)
theorem frameAt_lt {s : GStore} {no : Int} (h : 0 ≤ frameAt s no) : (frameAt s no).toNat < s.Frames.length := by
  obtain ⟨k, e, hk, _⟩ := frame_yes h
  rw [e]; simpa using hk
def dirtyF (s : GStore) : List Int × Int := if storeOK s = true then (dsp s 8, 0) else ([], 1)
theorem ok_frames {s : GStore} (h : storeOK s = true) : s.Frames.length ≤ 3 ∧ ∀ k (hk : k < s.Frames.length), (0 ≤ s.Frames[k].No ∧ s.Frames[k].No ≤ 7) ∧ frameAt s s.Frames[k].No = k := by
  unfold storeOK at h
  simp only [Bool.and_eq_true] at h
  obtain ⟨_, _, _, ⟨hf, h3⟩, _⟩ := h
  refine ⟨by have := of_decide_eq_true h3; omega, fun k hk => ?_⟩
  have hb : frameBad s k s.Frames[k] = false := by
    cases q : frameBad s k s.Frames[k] with
    | false => rfl
    | true => rw [frames_no hk q] at hf; cases hf
  unfold frameBad at hb
  simp only [Bool.or_eq_false_iff] at hb
  have h1 := hb.1.1.1.1.1
  have h2 := hb.1.1.1.1.2
  simp only [Bool.not_eq_false'] at h1 h2
  exact ⟨by have := inR_iff.1 h1; omega, of_decide_eq_true h2⟩
theorem dirty_eq {s : GStore} (h : storeOK s = true) {l : List Int} (hp : l.Perm (dl s.Frames)) (hs : l.Pairwise (· ≤ ·)) : l = dsp s 8 := by
  obtain ⟨h3, hf⟩ := ok_frames h
  have hn1 : (dl s.Frames).Nodup := by
    have : (s.Frames.map (fun f => f.No)).Nodup := by
      rw [List.nodup_iff_pairwise_ne, List.pairwise_iff_getElem]
      intro i j hi hj hij e
      simp only [List.length_map] at hi hj
      simp only [List.getElem_map] at e
      have a := (hf i hi).2
      have b := (hf j hj).2
      rw [e, b] at a; omega
    unfold dl
    exact (List.Sublist.map _ List.filter_sublist).nodup this
  have hpw : (dsp s 8).Pairwise (· < ·) := by
    unfold dsp
    rw [List.pairwise_map]
    exact (List.pairwise_lt_range.sublist List.filter_sublist).imp (fun h => by omega)
  have hn2 : (dsp s 8).Nodup := by rw [List.nodup_iff_pairwise_ne]; exact hpw.imp (fun h => by omega)
  refine sortedI_one (hp.trans ((List.perm_ext_iff_of_nodup hn1 hn2).2 (fun a => ?_))) hs (hpw.imp (fun h => by omega))
  constructor
  · intro ha
    unfold dl at ha
    obtain ⟨f, hm, rfl⟩ := List.mem_map.1 ha
    obtain ⟨hm, hd⟩ := List.mem_filter.1 hm
    obtain ⟨k, hk, rfl⟩ := List.mem_iff_getElem.1 hm
    obtain ⟨h1, h2⟩ := hf k hk
    unfold dsp
    refine List.mem_map.2 ⟨s.Frames[k].No.toNat, List.mem_filter.2 ⟨List.mem_range.2 (by omega), ?_⟩, by omega⟩
    rw [show ((s.Frames[k].No.toNat : Nat) : Int) = s.Frames[k].No from by omega]
    unfold dirtyAt
    rw [h2, Int.toNat_natCast, show s.Frames.getD k .zero = s.Frames[k] from by simp [List.getD_eq_getElem?_getD, hk], hd]
    simp
  · intro ha
    unfold dsp at ha
    obtain ⟨n, hm, rfl⟩ := List.mem_map.1 ha
    obtain ⟨_, hd⟩ := List.mem_filter.1 hm
    unfold dirtyAt at hd
    simp only [Bool.and_eq_true, decide_eq_true_eq] at hd
    obtain ⟨h0, hd⟩ := hd
    obtain ⟨k, e, hk, hno⟩ := frame_yes h0
    rw [e, Int.toNat_natCast, show s.Frames.getD k .zero = s.Frames[k] from by simp [List.getD_eq_getElem?_getD, hk]] at hd
    unfold dl
    exact List.mem_map.2 ⟨s.Frames[k], List.mem_filter.2 ⟨List.getElem_mem hk, hd⟩, hno⟩
abbrev GStore.avO (e0 e1 e2 e3 e4 : Nat) (x : GStore) : AV := .agg [.osl e0 1 0 x.Disk.Sectors.length, .osl e1 2 0 x.Disk.Cache.length, .d (.bool x.Disk.Armed), .osl e2 1 0 x.Disk.Keep.length, .d (.int .i64 x.Epoch), .osl e3 10 0 x.Log.length, .d (.int .i64 x.Sure), .osl e4 5 0 x.Frames.length, .d (.int .i64 x.Hand)]
abbrev GStore.hO (e0 e1 e2 e3 e4 : Nat) (x : GStore) : List (Nat × OB) := [(e0, .rows 1 (x.Disk.Sectors.map strRow)), (e1, .rows 2 (x.Disk.Cache.map GPending.row)), (e2, .rows 1 (x.Disk.Keep.map intRow)), (e3, .rows 10 (x.Log.map GLogRecord.row)), (e4, .deep 5 (x.Frames.map GFrame.row) [])]
def frK (k0 : Nat) (xs : List GFrame) : Nat := k0 + (xs.map (fun f => 4 + f.Page.slots.length)).sum
theorem frK_s {k0 k : Nat} {xs : List GFrame} (hk : k < xs.length) : frK k0 (xs.take (k + 1)) = frK k0 (xs.take k) + 4 + xs[k].Page.slots.length := by
  unfold frK; rw [List.take_succ_eq_append_getElem hk, List.map_append, List.sum_append]; simp; omega
theorem frK_le {k0 k : Nat} {xs : List GFrame} : frK k0 (xs.take k) ≤ frK k0 xs := by
  unfold frK
  conv => rhs; rw [← List.take_append_drop k xs, List.map_append, List.sum_append]
  omega
def GStore.mkN (k : Nat) (x : GStore) : Nat := frK (GDisk.mkN k x.Disk + 10 * x.Log.length) x.Frames
theorem frK_len {k0 : Nat} {xs : List GFrame} : frK k0 xs ≤ k0 + 4 * xs.length + szL GFrame.sz xs := by
  unfold frK
  induction xs with
  | nil => simp
  | cons x xs ih =>
    simp only [List.map_cons, List.sum_cons, List.length_cons]
    have e : szL GFrame.sz (x :: xs) = 1 + GFrame.sz x + szL GFrame.sz xs := by simp only [szL, sumBy, List.length_cons]; omega
    have e2 : x.Page.slots.length ≤ GFrame.sz x := szL_len
    omega
theorem frK_ge {k0 : Nat} {xs : List GFrame} : k0 + 4 * xs.length ≤ frK k0 xs := by
  unfold frK
  induction xs with
  | nil => simp
  | cons x xs ih => simp only [List.map_cons, List.sum_cons, List.length_cons]; omega
theorem store_mkN {s : GStore} (h : GStore.sz s ≤ 1048576) : GStore.mkN 1 s ≤ 1000000000000000000 := by
  have e : GStore.sz s = GDisk.sz s.Disk + szL GLogRecord.sz s.Log + szL GFrame.sz s.Frames := rfl
  have e1 : GDisk.sz s.Disk = szL List.length s.Disk.Sectors + szL GPending.sz s.Disk.Cache + szL (fun _ => 0) s.Disk.Keep := rfl
  have a0 := @szL_len _ List.length s.Disk.Sectors
  have a1 := @szL_len _ GPending.sz s.Disk.Cache
  have a2 := @szL_len _ (fun _ => 0) s.Disk.Keep
  have a3 := @szL_len _ GLogRecord.sz s.Log
  have a4 := @szL_len _ GFrame.sz s.Frames
  have a5 := @frK_len (GDisk.mkN 1 s.Disk + 10 * s.Log.length) s.Frames
  have a6 : GDisk.mkN 1 s.Disk = 1 + 1 * s.Disk.Sectors.length + 2 * s.Disk.Cache.length + 1 * s.Disk.Keep.length := rfl
  unfold GStore.mkN
  omega
theorem dirtyF_len {s : GStore} : (dirtyF s).1.length ≤ 8 := by
  unfold dirtyF
  split
  · exact dsp_le
  · exact Nat.zero_le _
theorem fillAt2 {α : Type} {xs : List α} {row : α → List D} {z : List D} {k : Nat} (h : k < xs.length) : ((xs.take (k + 1)).map row ++ List.replicate (xs.length - (k + 1)) z)[k]? = some (row xs[k]) := by
  rw [List.getElem?_append_left (by simp; omega), List.getElem?_map, List.getElem?_take, if_pos (by omega), List.getElem?_eq_getElem h]; rfl
theorem mem5 {p : Nat → Prop} {n m k l j : Nat} (h : p n) (h2 : p m) (h3 : p k) (h4 : p l) (h5 : p j) : ∀ e ∈ [n, m, k, l, j], p e := fun e he => by
  simp only [List.mem_cons, List.not_mem_nil, or_false] at he
  rcases he with rfl | rfl | rfl | rfl | rfl <;> assumption
theorem mid_set1 {α : Type} {pre tl : List α} {r r' : α} {k : Nat} (h : pre.length = k) : (pre ++ r :: tl).set k r' = (pre ++ [r']) ++ tl := by
  rw [mid_set h, List.append_assoc]; rfl
end Go.AM
