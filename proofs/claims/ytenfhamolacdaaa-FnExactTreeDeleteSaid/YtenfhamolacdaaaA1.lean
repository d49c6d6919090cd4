/- A layer over the calls (plain data, own blocks, code, contracts) and plain laws about what the functions compute (part 1). -/
import Derived.Test.YtenfhamolacdaaaA
import Derived.Laws.StructEq
import GoSem.ClaimChange
import Derived.DataReads
import Derived.Carry
import Derived.ProofKit
import Derived.OpenShut
import Derived.JoinedCond
set_option linter.unusedVariables false
set_option linter.unusedSimpArgs false
namespace Go.AM
/-- Slots that speak of 'e' are dropped. -/
def dropR (e : Nat) : List (Nat × AV) → List (Nat × AV)
  | [] => []
  | (t, x) :: r => bif nrA e x then (t, x) :: dropR e r else (t, .dead) :: dropR e r
def dropO (e : Nat) : List (Nat × OB) → List (Nat × OB)
  | [] => []
  | (k, ob) :: r => (k, bif nrO e ob then ob else pgO (Nat.beq e) ob) :: dropO e r
theorem dropO_eq (e : Nat) : ∀ own, dropO e own = pgOs (Nat.beq e) own
  | [] => rfl
  | (k, ob) :: r => by
    rw [dropO, pgOs, dropO_eq e r]
    cases h : nrO e ob with
    | false => rfl
    | true => rw [cond_true, pgO_nr e ob h]
theorem dropR_get (e : Nat) : ∀ (sl : List (Nat × AV)) (t : Nat) (x : AV), get (dropR e sl) t = some x → x = .dead ∨ get (pgS (Nat.beq e) sl) t = some x
  | [], t, x, h => by simp [dropR, get] at h
  | (k, y) :: r, t, x, h => by
    rw [dropR] at h
    cases hn : nrA e y with
    | true =>
      rw [hn, cond_true, get_cons] at h
      rw [pgS, get_cons, pg_nr e y hn]
      split at h
      · rename_i hk; rw [if_pos hk]; exact .inr h
      · rename_i hk; rw [if_neg hk]; exact dropR_get e r t x h
    | false =>
      rw [hn, cond_false, get_cons] at h
      rw [pgS, get_cons]
      split at h
      · cases h; exact .inl rfl
      · rename_i hk; rw [if_neg hk]; exact dropR_get e r t x h
theorem SatB.drop {C : Cx} {sl : List (Nat × AV)} {own : List (Nat × OB)} {a : Act} {w : World} {β : Names} {e : Nat} (S : SatB C ⟨pgS (Nat.beq e) sl, own⟩ a w β) : SatB C ⟨dropR e sl, own⟩ a w β where
  tsize := S.tsize
  df := S.df
  slots := fun t x hx => by
    rcases dropR_get e sl t x hx with rfl | h
    · rw [AR]; trivial
    · exact S.slots t x h
  hr := S.hr
  mine := S.mine
  stay := S.stay
  fr := S.fr
  xlt := S.xlt
theorem Tr.same (X : Nat → Prop) (p : Nat → Bool) (β : Names) (w : World) : Tr X X p β β w w :=
  ⟨⟨Nat.le_refl _, fun _ _ _ => rfl, fun _ h _ => h⟩, fun _ _ _ h => h, fun _ _ c ty fr _ _ h => ⟨c, ty, fr, h, rfl⟩⟩
theorem SatB.purge {C : Cx} {sl : List (Nat × AV)} {own : List (Nat × OB)} {a : Act} {w : World} {β : Names} (S : SatB C ⟨sl, own⟩ a w β) (p : Nat → Bool) : SatB C ⟨pgS p sl, pgOs p own⟩ a w β where
  tsize := S.tsize
  df := S.df
  slots := fun t x hx => by
    simp only [get_pgS, Option.map_eq_some_iff] at hx
    obtain ⟨y, hy, rfl⟩ := hx
    exact AR.pg (Tr.same _ p _ _) y _ (S.slots t y hy)
  hr := ⟨S.hr.inj, S.hr.lt, S.hr.notX, S.hr.hlt, S.hr.hinj, S.hr.hX, fun e ob ho => by
    simp only [get_pgOs, Option.map_eq_some_iff] at ho
    obtain ⟨q, hq, rfl⟩ := ho
    exact OBR.pg (Tr.same _ p _ _) (fun _ _ => rfl) (fun _ _ hk => ⟨hk, rfl⟩) (S.hr.own e q hq)⟩
  mine := S.mine
  stay := S.stay
  fr := S.fr
  xlt := S.xlt
def byteRow (b : UInt8) : List D := [.int .u8 b.toNat]
def SrcOK (C : Cx) (st : St) (sz : Nat) (v : AV) (rows : List (List D)) : Prop :=
  ∀ a w β u, SatB C st a w β → AR C.X β w v u → (∀ w', (Builtin.lenOf u).run C.P w' = .ok rows.length w') ∧
    ∃ vs : List Value, vs.length = rows.length * sz ∧ RowsR C.X β w sz rows vs.toArray ∧ (∀ w', Ext w w' → ∀ n, n ≤ rows.length → (Builtin.firstCells sz n u).run C.P w' = .ok (vs.take (n * sz)).toArray w') ∧ ∀ v ∈ vs, v.oneCell' = true
theorem DRows_flat {X : Nat → Prop} {β : Names} {w : World} {sz : Nat} : ∀ {rows : List (List D)} {b o : Nat}, DRows w (okf X β) sz rows b o →
    ∃ vs : List Value, vs.length = rows.length * sz ∧ RowsR X β w sz rows vs.toArray ∧ w.rangeAt b o vs
  | [], b, o, _ => ⟨[], by simp, fun i r hi => by simp at hi, fun j v hv => by simp at hv⟩
  | r :: rs, b, o, h => by
    rw [DRows] at h
    obtain ⟨h1, h2, h3⟩ := h
    obtain ⟨us, h4, h5⟩ := DRow_vals h2
    obtain ⟨vs, h6, h7, h8⟩ := DRows_flat h3
    have h9 : us.length = sz := by rw [DL_len h4, h1]
    refine ⟨us ++ vs, by simp only [List.length_append, h9, h6, List.length_cons, Nat.succ_mul]; omega, RowsR_split (RowsR_one h4 h1) (by simp [h9]) h7, fun j v hv => ?_⟩
    by_cases hj : j < us.length
    · rw [List.getElem?_append_left hj] at hv; exact h5 j v hv
    · rw [List.getElem?_append_right (by omega)] at hv
      have := h8 (j - us.length) v hv
      rwa [h9, show o + sz + (j - sz) = o + j from by omega] at this
theorem RowsR_ones {X : Nat → Prop} {β : Names} {w : World} {sz : Nat} {rows : List (List D)} {vs : List Value} (h : RowsR X β w sz rows vs.toArray) (hl : vs.length = rows.length * sz) : ∀ v ∈ vs, v.oneCell' = true := by
  intro v hv
  obtain ⟨p, hp, rfl⟩ := List.getElem_of_mem hv
  have hsz : 0 < sz := by
    rcases Nat.eq_zero_or_pos sz with h0 | h0
    · rw [h0] at hl; simp at hl; rw [hl] at hp; simp at hp
    · exact h0
  have hi : p / sz < rows.length := by
    rw [Nat.div_lt_iff_lt_mul hsz]; omega
  obtain ⟨h1, h2⟩ := h (p / sz) rows[p / sz] (by simp [hi])
  have hj : p % sz < rows[p / sz].length := by rw [h1]; exact Nat.mod_lt _ hsz
  obtain ⟨u, h3, h4⟩ := h2 (p % sz) _ (List.getElem?_eq_getElem hj)
  rw [Nat.div_add_mod'] at h3
  simp [hp] at h3
  rw [h3]
  exact (DR_one h4).2
theorem loadCells_run {P : Program} {w : World} {b o : Nat} {vs : List Value} (h : w.rangeAt b o vs) : (loadCells ⟨b, o, none⟩ vs.length).run P w = .ok vs.toArray w :=
  run_loadCells_list (P := P) w ⟨b, o, none⟩ vs (fun j v hv => by rw [Addr.add_mid]; exact h j v hv)
section
variable {C : Cx} {st : St}
theorem src_sl (sz : Nat) (rows : List (List D)) : SrcOK C st sz (.d (.sl sz rows)) rows := by
  intro a w β u S h
  rw [AR, DR] at h
  obtain ⟨ad, cap, rfl, h2, h3⟩ := h
  refine ⟨fun w' => rfl, ?_⟩
  rcases h3 with h3 | ⟨b, o, rfl, h4, h5, h6⟩
  · subst h3
    refine ⟨[], by simp, fun i r hi => by simp at hi, fun w' hw' n hn => ?_, fun v hv => by cases hv⟩
    have : n = 0 := by simpa using hn
    subst this
    cases ad with
    | none => simp [Builtin.firstCells]
    | some x => simp [Builtin.firstCells, loadCells, loadCellsFrom]
  · obtain ⟨vs, h7, h8, h9⟩ := DRows_flat h6
    refine ⟨vs, h7, h8, fun w' hw' n hn => ?_, RowsR_ones h8 h7⟩
    have hl : (vs.take (n * sz)).length = n * sz := by
      rw [List.length_take, h7]; exact Nat.min_eq_left (Nat.mul_le_mul_right _ hn)
    have := loadCells_run (P := C.P) (rangeAt_ext hw' (rangeAt_take h9 (n * sz)))
    rw [hl] at this
    simp only [Builtin.firstCells, this]
theorem rows_flat {X : Nat → Prop} {β : Names} {w : World} {sz : Nat} {rs : List (List D)} {b e : Nat} (h : OBR X β w (.rows sz rs) (some b) e) {s len : Nat} (hl : s + len ≤ rs.length) :
    ∃ vs : List Value, vs.length = len * sz ∧ RowsR X β w sz ((rs.drop s).take len) vs.toArray ∧ w.rangeAt b (s * sz) vs := by
  obtain ⟨c, ty, fr, h1, h2, h3, h4⟩ := h
  have hm : (s + len) * sz ≤ c.size := Nat.le_trans (Nat.mul_le_mul_right _ hl) h3
  rw [Nat.add_mul] at hm
  refine ⟨(c.toList.drop (s * sz)).take (len * sz), by simp; omega, fun i r hi => ?_, fun j v hv => ?_⟩
  · rw [List.getElem?_take] at hi
    split at hi
    · rename_i hil
      rw [List.getElem?_drop] at hi
      obtain ⟨h5, h6⟩ := h4 (s + i) r hi
      refine ⟨h5, fun j x hj => ?_⟩
      obtain ⟨v, h7, h8⟩ := h6 j x hj
      refine ⟨v, ?_, h8⟩
      have hj' : j < sz := by
        rw [← h5]
        rcases Nat.lt_or_ge j r.length with hq | hq
        · exact hq
        · rw [List.getElem?_eq_none hq] at hj; cases hj
      have hlt : i * sz + j < len * sz := by
        have : (i + 1) * sz ≤ len * sz := Nat.mul_le_mul_right _ hil
        rw [Nat.succ_mul] at this; omega
      simp only [List.getElem?_toArray, List.getElem?_take, if_pos hlt, List.getElem?_drop, Array.getElem?_toList]
      rw [← Nat.add_assoc, ← Nat.add_mul]; exact h7
    · cases hi
  · rw [List.getElem?_take] at hv
    split at hv
    · rw [List.getElem?_drop, Array.getElem?_toList] at hv
      simp [World.cell?, h1, hv]
    · cases hv
theorem src_osl {e sz s len : Nat} {rs : List (List D)} (he : get st.own e = some (.rows sz rs)) (hl : s + len ≤ rs.length) : SrcOK C st sz (.osl e sz s len) ((rs.drop s).take len) := by
  intro a w β u S h
  rw [AR] at h
  obtain ⟨ad, cap, rfl, h2, h3⟩ := h
  have hlen : ((rs.drop s).take len).length = len := by simp; omega
  refine ⟨fun w' => by rw [hlen]; rfl, ?_⟩
  rcases h3 with h3 | ⟨b, c, ty, fr, h4, rfl, h6, h7⟩
  · have : len = 0 := by omega
    subst this
    simp only [List.take_zero]
    refine ⟨[], by simp, fun i r hi => by simp at hi, fun w' hw' n hn => ?_, fun v hv => by cases hv⟩
    have : n = 0 := by simpa using hn
    subst this
    cases ad with
    | none => simp [Builtin.firstCells]
    | some x => simp [Builtin.firstCells, loadCells, loadCellsFrom]
  · have hob := S.hr.own e _ he
    rw [h4] at hob
    obtain ⟨vs, q1, q2, q3⟩ := rows_flat hob hl
    refine ⟨vs, by rw [hlen]; exact q1, q2, fun w' hw' n hn => ?_, RowsR_ones q2 (by rw [hlen]; exact q1)⟩
    rw [hlen] at hn
    have hl : (vs.take (n * sz)).length = n * sz := by
      rw [List.length_take, q1]; exact Nat.min_eq_left (Nat.mul_le_mul_right _ hn)
    have := loadCells_run (P := C.P) (rangeAt_ext hw' (rangeAt_take q3 (n * sz)))
    rw [hl] at this
    simp only [Builtin.firstCells, this]
end
theorem growBy_le : ∀ (r n c : Nat), c ≤ 2 * n → Builtin.growBy n r c ≤ 2 * n + 256
  | 0, n, c, h => by rw [Builtin.growBy]; omega
  | r + 1, n, c, h => by
    rw [Builtin.growBy]
    split
    · omega
    · rename_i hc
      by_cases h2 : c + (c + 768) / 4 ≤ 2 * n
      · exact growBy_le r n _ h2
      · cases r with
        | zero => rw [Builtin.growBy]; omega
        | succ r => rw [Builtin.growBy, if_pos (by omega)]; omega
theorem nextcap_le (n o : Nat) (h : o ≤ n) : Builtin.nextslicecap n o ≤ 2 * n + 256 := by
  unfold Builtin.nextslicecap
  split
  · omega
  · split
    · omega
    · exact growBy_le 4 n o (by omega)
theorem app_fit {P : Program} {op : Oper} {sz bytes : Nat} {zs : List K} {x y : XA} (hf : fits P op (.app sz bytes zs x y) = true) :
    ∃ p q t u e d2, op.op = .call { callee := .builtin .append, args := #[p, q], argTypes := #[t, u] } ∧ P.underlying t = some (.slice e) ∧ szIs P e sz = true ∧ byIs P e bytes = true ∧ zeroIs P e zs = true ∧ 1 ≤ sz ∧ 1 ≤ bytes ∧
      P.underlying u = some d2 ∧ ((∃ k, d2 = .slice k) ∨ d2 = .string) ∧ fitA p x = true ∧ fitA q y = true := by
  simp only [fits] at hf
  split at hf
  · rename_i args ts ho
    split at hf
    · rename_i p q t u h1 h2
      simp only [Bool.and_eq_true] at hf
      obtain ⟨⟨⟨h3, h4⟩, h5⟩, h6⟩ := hf
      split at h3
      · rename_i e he
        simp only [Bool.and_eq_true] at h3
        split at h4
        · rename_i e2 hu
          exact ⟨p, q, t, u, e, _, by rw [ho, list2 h1, list2 h2], sliceOf_some he, h3.1.1.1.1, h3.1.1.1.2, h3.1.1.2, Nat.le_of_ble_eq_true h3.1.2, Nat.le_of_ble_eq_true h3.2, hu, .inl ⟨_, rfl⟩, h5, h6⟩
        · rename_i hu
          exact ⟨p, q, t, u, e, _, by rw [ho, list2 h1, list2 h2], sliceOf_some he, h3.1.1.1.1, h3.1.1.1.2, h3.1.1.2, Nat.le_of_ble_eq_true h3.1.2, Nat.le_of_ble_eq_true h3.2, hu, .inr rfl, h5, h6⟩
        · cases h4
      · cases h3
    · cases hf
  · cases hf
theorem askRoom_run {P : Program} (n : Nat) (w : World) : (askRoom n).run P w = .ok () w := by
  unfold askRoom
  split
  · rfl
  · rfl
/-- Within the capacity. -/
theorem append_fits {P : Program} {w : World} {t u e : TypeId} {d2 : TypeDesc} {sz sLen sCap n : Nat} {base : Option Addr} {x : Value} {vs : List Value} (ht : P.underlying t = some (.slice e)) (hz : szIs P e sz = true)
    (hu : P.underlying u = some d2) (hd2 : (∃ k, d2 = .slice k) ∨ d2 = .string) (hn : (Builtin.lenOf x).run P w = .ok n w) (hx : (Builtin.firstCells sz n x).run P w = .ok vs.toArray w) (hroom : sLen + n ≤ sCap)
    {w' : World} (hst : match base with | some a => (storeCells (a.add (sLen * sz)) vs).run P w = .ok () w' | none => w' = w) (ty : TypeId) :
    (Builtin.append_ #[t, u] ty #[.slice base sLen sCap, x]).run P w = .ok (.slice base (sLen + n) sCap) w' := by
  have hu2 : ∀ w', (underlying u).run P w' = .ok d2 w' := fun w' => run_underlying hu w'
  rcases hd2 with ⟨k, rfl⟩ | rfl
  all_goals
    simp only [Builtin.append_, List.getElem?_toArray, List.getElem?_cons_zero, List.getElem?_cons_succ, Sem.run_bind, run_underlying ht, Result.andThen_ok, szIs_some hz, hu2, Sem.run_pure, Bool.false_eq_true, if_false, hn,
      hroom, if_true, Bool.not_false, hx]
    cases base with
    | none => subst hst; rfl
    | some ad => simp only [Sem.run_pure, Sem.run_bind, hst, Result.andThen_ok]
/-- Beyond it. -/
theorem append_grows {P : Program} {w : World} {t u e : TypeId} {d2 : TypeDesc} {sz bytes sLen sCap n : Nat} {base : Option Addr} {x : Value} {vs old : List Value} {i : TypeInfo} {z : Value} (ht : P.underlying t = some (.slice e)) (hz : szIs P e sz = true)
    (hi : P.info? e = some i) (hb : i.bytes = bytes) (hb1 : 1 ≤ bytes) (hzero : i.zero = some z) (hu : P.underlying u = some d2) (hd2 : (∃ k, d2 = .slice k) ∨ d2 = .string) (hn : (Builtin.lenOf x).run P w = .ok n w)
    (hx : ∀ w', Ext w w' → (Builtin.firstCells sz n x).run P w' = .ok vs.toArray w') (ho : ∀ w', Ext w w' → (Builtin.firstCells sz sLen (.slice base sLen sCap)).run P w' = .ok old.toArray w')
    (hroom : ¬ sLen + n ≤ sCap) (hbound : Builtin.nextslicecap (sLen + n) sCap * bytes ≤ 2 ^ 48) (ty : TypeId) :
    ∃ newCap w1 rest, sLen + n ≤ newCap ∧ Ext w w1 ∧ w1.heap = w.heap ∧ rest = Builtin.zeroCells z.cells (newCap - (sLen + n)) ∧
      (Builtin.append_ #[t, u] ty #[.slice base sLen sCap, x]).run P w = .ok (.slice (some ⟨w.heap.size, 0, none⟩) (sLen + n) newCap) { w1 with heap := w1.heap.push (.cells (old.toArray ++ vs.toArray ++ rest) e) } := by
  have hq : (Question.appendCap (sLen + n) sCap e).forced = false := rfl
  let newCap := (Question.appendCap (sLen + n) sCap e).cut (w.tape w.drawn (.appendCap (sLen + n) sCap e))
  let w1 : World := { w with drawn := w.drawn + 1 }
  have hcap : sLen + n ≤ newCap := by show sLen + n ≤ sLen + n + _ % _; omega
  have hch : (choose (.appendCap (sLen + n) sCap e)).run P w = .ok newCap w1 := by
    simp [choose, Sem.run, hq, newCap, w1]
  refine ⟨newCap, w1, _, hcap, Ext.drew w, rfl, rfl, ?_⟩
  have hby : (typeInfo e).run P w = .ok i w := by simp [typeInfo, hi]
  have hby1 : (typeInfo e).run P w1 = .ok i w1 := by simp [typeInfo, hi]
  have hzv : (zeroValue e).run P w1 = .ok z w1 := by simp [zeroValue, typeInfo, hi, hzero]
  have hb0 : ¬ i.bytes = 0 := by omega
  have hbd : ¬ (Builtin.nextslicecap (sLen + n) sCap * i.bytes > 2 ^ 48) := by rw [hb]; omega
  have hu2 : ∀ w', (underlying u).run P w' = .ok d2 w' := fun w' => run_underlying hu w'
  rcases hd2 with ⟨k, rfl⟩ | rfl
  all_goals
    simp only [Builtin.append_, List.getElem?_toArray, List.getElem?_cons_zero, List.getElem?_cons_succ, Sem.run_bind, run_underlying ht, Result.andThen_ok, szIs_some hz, hu2, Sem.run_pure, Bool.false_eq_true, if_false, hn,
      hroom, hby, hb0, false_or, and_false, hbd, hch, askRoom_run, hby1, ho w1 (Ext.drew w), hx w1 (Ext.drew w), hzv, Bool.not_false, if_true]
    simp [newRow, newObj, Sem.run, w1]
    exact ⟨rfl, rfl, rfl⟩
theorem storeCells_run {P : Program} {w : World} {b o : Nat} {vs : List Value} {c : Array Value} {ty : TypeId} {fr : Nat × Nat} (hb : w.heap[b]? = some (.cells c ty fr)) (ht : thaw fr c.size) (hl : o + vs.length ≤ c.size) (h1 : ∀ u ∈ vs, u.oneCell' = true) :
    (storeCells ⟨b, o, none⟩ vs).run P w = .ok () (w.setCells b o vs) := by
  have hr := run_storeCells_cells (P := P) b o vs 0 w
    (fun j hj => by simp [World.cell?, hb]; omega)
    (fun j hj => by
      have h2 := ht (o + 0 + j) (by omega)
      obtain ⟨lo, hi⟩ := fr
      have h2' : ¬(lo ≤ o + 0 + j ∧ o + 0 + j < hi) := h2
      have : (decide (lo ≤ o + 0 + j) && decide (o + 0 + j < hi)) = false := by
        rw [← Bool.decide_and]; exact decide_eq_false h2'
      simp only [World.frozen?, hb, this])
    h1
  rwa [Nat.add_zero] at hr
theorem setL_append {α : Type} (p m xs : List α) (h : xs.length ≤ m.length) : setL (p ++ m) p.length xs = p ++ xs ++ m.drop xs.length := by
  have e : p ++ m = p ++ m.take xs.length ++ m.drop xs.length := by rw [List.append_assoc, List.take_append_drop]
  rw [e, setL_mid _ _ _ _ (by simp; omega)]
/-- The head of an own block's rows, in new surroundings. -/
theorem RowsR_take {X : Nat → Prop} {β : Names} {w : World} {sz : Nat} {rs : List (List D)} {c : Array Value} (h : RowsR X β w sz rs c) (n : Nat) : RowsR X β w sz (rs.take n) (c.toList.take (n * sz)).toArray := by
  intro i r hi
  rw [List.getElem?_take] at hi
  split at hi
  · rename_i hin
    obtain ⟨h1, h2⟩ := h i r hi
    refine ⟨h1, fun j x hj => ?_⟩
    obtain ⟨v, h3, h4⟩ := h2 j x hj
    refine ⟨v, ?_, h4⟩
    have hj' : j < sz := by
      rw [← h1]
      rcases Nat.lt_or_ge j r.length with hq | hq
      · exact hq
      · rw [List.getElem?_eq_none hq] at hj; cases hj
    have : (i + 1) * sz ≤ n * sz := Nat.mul_le_mul_right _ hin
    rw [Nat.succ_mul] at this
    simp only [List.getElem?_toArray, List.getElem?_take, Array.getElem?_toList]
    rw [if_pos (by omega)]; exact h3
  · cases hi
theorem RowsR_more {X : Nat → Prop} {β : Names} {w : World} {sz : Nat} {rs : List (List D)} {vs : List Value} (h : RowsR X β w sz rs vs.toArray) (more : List Value) : RowsR X β w sz rs (vs ++ more).toArray := by
  intro i r hi
  obtain ⟨h1, h2⟩ := h i r hi
  refine ⟨h1, fun j x hj => ?_⟩
  obtain ⟨v, h3, h4⟩ := h2 j x hj
  refine ⟨v, ?_, h4⟩
  simp only [List.getElem?_toArray] at h3 ⊢
  rw [List.getElem?_append_left]
  · exact h3
  · rcases Nat.lt_or_ge (i * sz + j) vs.length with hq | hq
    · exact hq
    · rw [List.getElem?_eq_none hq] at h3; cases h3
section
variable {C : Cx} {sl : List (Nat × AV)} {own : List (Nat × OB)}
def old_rest (a b : List Value) (r : Array Value) : Array Value := a.toArray ++ b.toArray ++ r
theorem zeroCells_toList (z : Array Value) (n : Nat) : ∃ l : List Value, Builtin.zeroCells z n = l.toArray ∧ l.length = n * z.size :=
  ⟨(Builtin.zeroCells z n).toList, by simp, by simp [Builtin.zeroCells]⟩
/-- append to a slice of an own block, from its head on. -/
theorem e_app_osl {d sz bytes e len : Nat} {zs : List K} {x y : XA} {v : AV} {rs rows : List (List D)} (hx : evA sl x = some (.osl e sz 0 len)) (he : get own e = some (.rows sz rs)) (hlen : len ≤ rs.length)
    (hy : evA sl y = some v) (hsrc : SrcOK C ⟨sl, own⟩ sz v rows) (hm : e < 1000 ∨ C.mv e = true) (hb : (2 * (len + rows.length) + 256) * bytes ≤ 2 ^ 48) :
    EStep C ⟨sl, own⟩ (some d) (.app sz bytes zs x y) ⟨(d, .osl e sz 0 (len + rows.length)) :: dropR e sl, (e, .rows sz (rs.take len ++ rows)) :: dropO e own⟩ := by
  intro o ho hd hf a w β S
  have hd := hd _ rfl
  obtain ⟨p, q, t, u, el, d2, hop, ht, hz, hby, hzero, hsz1, hb1, hu, hd2, hp, hq⟩ := app_fit hf
  have h1 := AR_of_fitA S hp hx
  have h2 := AR_of_fitA S hq hy
  obtain ⟨hn, vs, hvl, hvr, hfc, hones⟩ := hsrc a w β _ S h2
  obtain ⟨_, vs0, hvl0, hvr0, hfc0, _⟩ := src_osl (C := C) (st := ⟨sl, own⟩) he (s := 0) (by omega) a w β _ S h1
  have h1' := h1
  rw [AR] at h1
  obtain ⟨base, cap, h3, h4, h5⟩ := h1
  obtain ⟨ti, hti, htb⟩ := byIs_some hby
  have hrows0 : ((rs.drop 0).take len).length = len := by simp; omega
  have hres : ∀ (r : Value) (w' : World), (Builtin.append_ #[t, u] o.type #[a.eval p, a.eval q]).run C.P w = .ok r w' → (execOp a.eval o).run C.P w = .ok (.value r) w' := by
    intro r w' hr
    simp only [execOp, hop, resolve, List.map_toArray, List.map_cons, List.map_nil, Sem.run_bind, Sem.run_pure, Result.andThen_ok, invoke, builtin, hr]
  rw [h3] at hres
  by_cases hroom : len + rows.length ≤ cap
  · -- within the capacity
    rcases h5 with h5 | ⟨b, c, ty, fr, h6, h7, h8, h9⟩
    · -- no capacity: nothing appended
      have hr0 : rows.length = 0 := by omega
      have hl0 : len = 0 := by omega
      have hrn : rows = [] := List.eq_nil_of_length_eq_zero hr0
      have hvn : vs = [] := List.eq_nil_of_length_eq_zero (by rw [hvl, hr0]; simp)
      have hrun := append_fits (sLen := len) (sCap := cap) (base := base) ht hz hu hd2 (hn w) (by have := hfc w (Ext.refl w) rows.length (Nat.le_refl _); rw [← hvl, List.take_length] at this; exact this) hroom (w' := w) (by
        subst hvn
        cases base with
        | none => rfl
        | some ad => rfl) o.type
      have hv' : AR C.X β w (.osl e sz 0 (len + rows.length)) (.slice base (len + rows.length) cap) := by
        rw [AR]; exact ⟨base, cap, rfl, hroom, .inl h5⟩
      refine ⟨_, w, β, hres _ _ hrun, .inr ⟨_, rfl, ?_⟩⟩
      have S1 := (S.purge (Nat.beq e)).drop
      rw [← dropO_eq] at S1
      have hob0 := S.hr.own e _ he
      have hob : OBR C.X β w (.rows sz (rs.take len ++ rows)) (β e) e := by
        rw [hrn, hl0, List.take_zero, List.append_nil]
        cases hbe : β e with
        | none => rfl
        | some b =>
          rw [hbe] at hob0
          obtain ⟨c, ty, fr, q1, q2, q3, q4⟩ := hob0
          exact ⟨c, ty, fr, q1, q2, by simp, fun i r hi => by simp at hi⟩
      have S2 : SatB C ⟨dropR e sl, (e, .rows sz (rs.take len ++ rows)) :: dropO e own⟩ a w β := {
        S1 with
        hr := ⟨S1.hr.inj, S1.hr.lt, S1.hr.notX, S1.hr.hlt, S1.hr.hinj, S1.hr.hX, fun e' ob' h' => by
          simp only [get_cons] at h'
          split at h'
          · rename_i hee; cases h'; rw [← hee]; exact hob
          · exact S1.hr.own e' ob' h'⟩ }
      exact S2.put hd hv'
    · subst h7
      have hob0 := S.hr.own e _ he
      rw [h6] at hob0
      obtain ⟨c0, ty0, fr0, q1, q2, q3, q4⟩ := hob0
      rw [h8] at q1; cases q1
      have hcap : cap * sz ≤ c.size := by simpa using h9
      have hm1 : (len + rows.length) * sz ≤ c.size := Nat.le_trans (Nat.mul_le_mul_right _ hroom) hcap
      rw [Nat.add_mul] at hm1
      have hst := storeCells_run (P := C.P) (o := len * sz) (vs := vs) h8 q2.1 (by rw [hvl]; exact hm1) hones
      obtain ⟨w1, w2, w3, w4, w5, w6⟩ := setCells_world b vs (len * sz) w
      have hrun := append_fits (sLen := len) (sCap := cap) (base := some ⟨b, 0 * sz, none⟩) ht hz hu hd2 (hn w) (by have := hfc w (Ext.refl w) rows.length (Nat.le_refl _); rw [← hvl, List.take_length] at this; exact this) hroom
        (w' := w.setCells b (len * sz) vs) (by simp only [Nat.zero_mul, add_spot, Nat.zero_add]; exact hst) o.type
      refine ⟨_, _, β, hres _ _ hrun, .inr ⟨_, rfl, ?_⟩⟩
      have hcc : ∀ c' ty' fr', w.heap[b]? = some (.cells c' ty' fr') → ∃ c'' ty'' fr'', (w.setCells b (len * sz) vs).heap[b]? = some (.cells c'' ty'' fr'') ∧ c''.size = c'.size := fun c' ty' fr' h =>
        ⟨_, _, _, w6 c' ty' fr' h, by simp [setL_length]⟩
      have T := Tr.store (X := C.X) h6 w4 w5 hcc
      have hlc : (c.toList.take (len * sz)).length = len * sz := by simp; omega
      have hset : setL c.toList (len * sz) vs = c.toList.take (len * sz) ++ vs ++ (c.toList.drop (len * sz)).drop vs.length := by
        have := setL_append (c.toList.take (len * sz)) (c.toList.drop (len * sz)) vs (by simp; omega)
        rw [List.take_append_drop, hlc] at this
        exact this
      have hob : OBR C.X β (w.setCells b (len * sz) vs) (.rows sz (rs.take len ++ rows)) (some b) e := by
        refine ⟨_, ty, fr, w6 c ty fr h8, by simpa [setL_length] using q2, by simp [setL_length, Nat.add_mul]; rw [Nat.min_eq_left hlen]; exact hm1, ?_⟩
        rw [hset]
        exact (RowsR_more (RowsR_split (RowsR_take q4 len) (by rw [hlc]; simp [Nat.min_eq_left hlen]) hvr) _).mono T.keep
      have S1 := (S.purge (Nat.beq e)).drop
      rw [← dropO_eq] at S1
      have S2 := S1.store h6 ⟨w1, w2, w3⟩ w4 w5 hcc hob
      refine S2.put hd ?_
      rw [AR]
      exact ⟨_, cap, rfl, hroom, .inr ⟨b, _, ty, fr, h6, rfl, w6 c ty fr h8, by simp [setL_length]; exact hcap⟩⟩
  · -- beyond the capacity
    have ho' : ∀ w', Ext w w' → (Builtin.firstCells sz len (.slice base len cap)).run C.P w' = .ok vs0.toArray w' := fun w' hw' => by
      have := hfc0 w' hw' len (by rw [hrows0]; exact Nat.le_refl _)
      rw [hrows0] at hvl0
      rw [← hvl0, List.take_length, h3] at this
      exact this
    have hx' : ∀ w', Ext w w' → (Builtin.firstCells sz rows.length (a.eval q)).run C.P w' = .ok vs.toArray w' := fun w' hw' => by
      have := hfc w' hw' rows.length (Nat.le_refl _)
      rw [← hvl, List.take_length] at this
      exact this
    obtain ⟨z0, zv, hz1, hz2, hz3, hz4⟩ := zeroIs_some hzero
    rw [hti] at hz1; cases hz1
    have hbd : Builtin.nextslicecap (len + rows.length) cap * bytes ≤ 2 ^ 48 := Nat.le_trans (Nat.mul_le_mul_right _ (nextcap_le _ _ (by omega))) hb
    obtain ⟨newCap, w1, rest, c1, c2, c3, c4, c5⟩ := append_grows (sLen := len) (sCap := cap) (base := base) ht hz hti htb hb1 hz2 hu hd2 (hn w) hx' ho' hroom hbd o.type
    refine ⟨_, _, setN β e (some w1.heap.size), hres _ _ c5, .inr ⟨_, rfl, ?_⟩⟩
    have S1 := S.ext c2
    have hw1 : w1.heap.size = w.heap.size := by rw [c3]
    obtain ⟨rl, hrl1, hrl2⟩ := zeroCells_toList zv.cells (newCap - (len + rows.length))
    have hrest : old_rest vs0 vs rest = (vs0 ++ vs ++ rl).toArray := by unfold old_rest; rw [c4, hrl1]; simp
    have hzc : zv.cells.size = sz := by
      have e1 := szIs_some hz w
      have e2 : (sizeOf el).run C.P w = .ok ti.size w := by simp [sizeOf, typeInfo, hti]
      rw [e2] at e1; simp at e1
      have := AL_len (fitZ_AL (X := C.X) (β := β) (w := w) hz3)
      simp at this
      omega
    have hsz2 : (vs0 ++ vs ++ rl).length = newCap * sz := by
      rw [hrows0] at hvl0
      simp only [List.length_append, hvl0, hvl, hrl2, hzc]
      rw [← Nat.add_mul, ← Nat.add_mul]
      congr 1; omega
    have hRR : RowsR C.X β w sz (rs.take len ++ rows) (vs0 ++ vs ++ rl).toArray := by
      have := RowsR_more (RowsR_split hvr0 hvl0 hvr) rl
      simpa using this
    have hob := rows_new (d := e) (vs0 ++ vs ++ rl).toArray el (0, 0) (thaws_none _ _) (hRR.mono ⟨c2.size, fun b _ hb => c2.same b hb, fun b hb _ => hb⟩) (by
      simp only [List.size_toArray, hsz2, List.length_append, List.length_take, Nat.min_eq_left hlen]
      exact Nat.mul_le_mul_right _ c1)
    have S2 := (S1.alloc (d := e) hm hob).drop
    rw [← dropO_eq] at S2
    have hpush : ({ w1 with heap := w1.heap.push (.cells (vs0.toArray ++ vs.toArray ++ rest) el) } : World) = { w1 with heap := w1.heap.push (.cells (vs0 ++ vs ++ rl).toArray el) } := by
      have : vs0.toArray ++ vs.toArray ++ rest = (vs0 ++ vs ++ rl).toArray := hrest
      rw [this]
    rw [hpush]
    refine S2.put hd ?_
    rw [AR]
    refine ⟨_, newCap, rfl, c1, .inr ⟨w1.heap.size, _, el, (0, 0), by simp [setN_nm], by simp [hw1], heap_push_new, ?_⟩⟩
    simp only [List.size_toArray, hsz2, Nat.zero_add]
    exact Nat.le_refl _
/-- append to a slice without capacity. -/
theorem e_app_zs {d sz bytes z : Nat} {zs : List K} {x y : XA} {v : AV} {rows : List (List D)} (hx : evA sl x = some (.zs z))
    (hy : evA sl y = some v) (hsrc : SrcOK C ⟨sl, own⟩ sz v rows) (hd' : d < 1000) (g1 : nrS d sl = true) (g2 : nrOs d own = true) (hb : (2 * rows.length + 256) * bytes ≤ 2 ^ 48) :
    EStep C ⟨sl, own⟩ (some d) (.app sz bytes zs x y) ⟨(d, .osl d sz 0 rows.length) :: sl, (d, .rows sz rows) :: own⟩ := by
  intro o ho hd hf a w β S
  have hd := hd _ rfl
  obtain ⟨p, q, t, u, el, d2, hop, ht, hz, hby, hzero, hsz1, hb1, hu, hd2, hp, hq⟩ := app_fit hf
  have h1 := AR_of_fitA S hp hx
  have h2 := AR_of_fitA S hq hy
  obtain ⟨hn, vs, hvl, hvr, hfc, hones⟩ := hsrc a w β _ S h2
  rw [AR] at h1
  obtain ⟨base, h3⟩ := h1
  obtain ⟨ti, hti, htb⟩ := byIs_some hby
  have hres : ∀ (r : Value) (w' : World), (Builtin.append_ #[t, u] o.type #[a.eval p, a.eval q]).run C.P w = .ok r w' → (execOp a.eval o).run C.P w = .ok (.value r) w' := by
    intro r w' hr
    simp only [execOp, hop, resolve, List.map_toArray, List.map_cons, List.map_nil, Sem.run_bind, Sem.run_pure, Result.andThen_ok, invoke, builtin, hr]
  rw [h3] at hres
  by_cases hroom : rows.length = 0
  · have hrn : rows = [] := List.eq_nil_of_length_eq_zero hroom
    subst hrn
    have hvn : vs = [] := List.eq_nil_of_length_eq_zero (by rw [hvl]; simp)
    have hrun := append_fits (sLen := 0) (sCap := 0) (base := base) ht hz hu hd2 (hn w) (by have := hfc w (Ext.refl w) 0 (by simp); simpa [hvn] using this) (by simp) (w' := w) (vs := []) (by
      cases base with
      | none => rfl
      | some ad => rfl) o.type
    refine ⟨_, w, setN β d none, hres _ _ hrun, .inr ⟨_, rfl, ?_⟩⟩
    have hN : ∀ e b, setN β d none e = some b → e ≠ d ∧ β e = some b := by
      intro e b h
      rw [setN_nm] at h
      split at h
      · cases h
      · rename_i hne; exact ⟨hne, h⟩
    have T : Tr C.X C.X (Nat.beq d) β (setN β d none) w w := {
      keep := ⟨Nat.le_refl _, fun _ _ _ => rfl, fun b ⟨q1, q2⟩ _ => ⟨q1, fun e he => q2 e (hN e b he).2⟩⟩
      name := fun e b hpe hb => by
        rw [setN_nm]; rw [if_neg (by rintro rfl; simp at hpe)]; exact hb
      bsize := fun e b c ty fr _ _ hh => ⟨c, ty, fr, hh, rfl⟩ }
    have S1 : SatB C ⟨sl, (d, .rows sz []) :: own⟩ a w (setN β d none) := {
      tsize := S.tsize
      df := S.df
      slots := fun t' x' hx' => by
        have := AR.pg T x' _ (S.slots t' x' hx')
        rwa [pg_nr d x' (nrS_get g1 hx')] at this
      hr := ⟨fun e e' b q1 q2 => S.hr.inj e e' b (hN e b q1).2 (hN e' b q2).2, fun e b q1 => S.hr.lt e b (hN e b q1).2, fun e b q1 => S.hr.notX e b (hN e b q1).2, S.hr.hlt, S.hr.hinj, S.hr.hX, fun e ob he => by
        simp only [get_cons] at he
        split at he
        · rename_i hde; cases he
          have : setN β d none e = none := by rw [setN_nm]; rw [if_pos hde.symm]
          rw [this]; rfl
        · rename_i hde
          have e1 : setN β d none e = β e := by rw [setN_nm]; rw [if_neg (Ne.symm hde)]
          rw [e1]
          have := OBR.pg T (fun _ _ => rfl) (fun _ _ hk => ⟨hk, rfl⟩) (S.hr.own e ob he)
          rwa [pgO_nr d ob (nrOs_get g2 he)] at this⟩
      mine := fun b q1 => S.mine b (q1.imp (fun ⟨e, h⟩ => ⟨e, (hN e b h).2⟩) id)
      stay := fun e he hm => by
        have e1 : setN β d none e = β e := by rw [setN_nm]; rw [if_neg (by omega)]
        rw [e1]; exact S.stay e he hm
      fr := S.fr
      xlt := S.xlt }
    refine S1.put hd ?_
    rw [AR]
    exact ⟨base, 0, rfl, Nat.le_refl _, .inl rfl⟩
  · have ho' : ∀ w', Ext w w' → (Builtin.firstCells sz 0 (.slice base 0 0)).run C.P w' = .ok ([] : List Value).toArray w' := fun w' _ => by
      cases base with
      | none => simp [Builtin.firstCells]
      | some ad => simp [Builtin.firstCells, loadCells, loadCellsFrom]
    have hx' : ∀ w', Ext w w' → (Builtin.firstCells sz rows.length (a.eval q)).run C.P w' = .ok vs.toArray w' := fun w' hw' => by
      have := hfc w' hw' rows.length (Nat.le_refl _)
      rw [← hvl, List.take_length] at this
      exact this
    obtain ⟨z0, zv, hz1, hz2, hz3, hz4⟩ := zeroIs_some hzero
    rw [hti] at hz1; cases hz1
    have hbd : Builtin.nextslicecap (0 + rows.length) 0 * bytes ≤ 2 ^ 48 := Nat.le_trans (Nat.mul_le_mul_right _ (nextcap_le _ _ (by omega))) (by rw [Nat.zero_add]; exact hb)
    obtain ⟨newCap, w1, rest, c1, c2, c3, c4, c5⟩ := append_grows (sLen := 0) (sCap := 0) (base := base) ht hz hti htb hb1 hz2 hu hd2 (hn w) hx' ho' (by omega) hbd o.type
    refine ⟨_, _, setN β d (some w1.heap.size), hres _ _ c5, .inr ⟨_, rfl, ?_⟩⟩
    have S1 := S.ext c2
    have hw1 : w1.heap.size = w.heap.size := by rw [c3]
    obtain ⟨rl, hrl1, hrl2⟩ := zeroCells_toList zv.cells (newCap - (0 + rows.length))
    have hrest : old_rest [] vs rest = (vs ++ rl).toArray := by unfold old_rest; rw [c4, hrl1]; simp
    have hzc : zv.cells.size = sz := by
      have e1 := szIs_some hz w
      have e2 : (sizeOf el).run C.P w = .ok ti.size w := by simp [sizeOf, typeInfo, hti]
      rw [e2] at e1; simp at e1
      have := AL_len (fitZ_AL (X := C.X) (β := β) (w := w) hz3)
      simp at this
      omega
    have hsz2 : (vs ++ rl).length = newCap * sz := by
      simp only [List.length_append, hvl, hrl2, hzc]
      rw [← Nat.add_mul]
      congr 1; omega
    have hRR : RowsR C.X β w sz rows (vs ++ rl).toArray := RowsR_more hvr rl
    have hob := rows_new (d := d) (vs ++ rl).toArray el (0, 0) (thaws_none _ _) (hRR.mono ⟨c2.size, fun b _ hb => c2.same b hb, fun b hb _ => hb⟩) (by
      simp only [List.size_toArray, hsz2]
      exact Nat.mul_le_mul_right _ (by omega))
    have S2 := S1.alloc' hd' g1 g2 hob
    have hpush : ({ w1 with heap := w1.heap.push (.cells (([] : List Value).toArray ++ vs.toArray ++ rest) el) } : World) = { w1 with heap := w1.heap.push (.cells (vs ++ rl).toArray el) } := by
      have : ([] : List Value).toArray ++ vs.toArray ++ rest = (vs ++ rl).toArray := hrest
      rw [this]
    rw [hpush]
    refine S2.put hd ?_
    rw [AR]
    refine ⟨_, newCap, by rw [Nat.zero_add], by omega, .inr ⟨w1.heap.size, _, el, (0, 0), by simp [setN_nm], by simp [hw1], heap_push_new, ?_⟩⟩
    simp only [List.size_toArray, hsz2, Nat.zero_add]
    exact Nat.le_refl _
end
end Go.AM

namespace Go.AM
section
variable {C : Cx} {sl : List (Nat × AV)} {own : List (Nat × OB)}
def zrow (zs : List K) : Option (List D) := toDs (zs.map K.av)
theorem DL_get {w : World} {ok : Nat → Prop} : ∀ {ds : List D} {vs : List Value}, DL w ok ds vs → ∀ (j : Nat) x, ds[j]? = some x → ∃ v, vs[j]? = some v ∧ DR w ok x v
  | [], vs, h, j, x, hx => by simp at hx
  | y :: ys, vs, h, j, x, hx => by
    rw [DL] at h
    obtain ⟨v, r, rfl, h2, h3⟩ := h
    cases j with
    | zero => simp at hx; subst hx; exact ⟨v, by simp, h2⟩
    | succ j => simp at hx; simpa using DL_get h3 j x hx
theorem RowsR_zero {X : Nat → Prop} {β : Names} {w : World} {sz n : Nat} {row : List D} {z : Array Value} (h : DL w (okf X β) row z.toList) (hl : row.length = sz) {c : Array Value} (hz : ∀ p : Nat, p < n * sz → c[p]? = some (z[p % z.size]!)) (m : Nat) (hm : m ≤ n) :
    RowsR X β w sz (List.replicate m row) c := by
  intro i r hi
  rw [List.getElem?_replicate] at hi
  split at hi
  · rename_i him
    cases hi
    refine ⟨hl, fun j x hj => ?_⟩
    have hj' : j < sz := by
      rw [← hl]
      rcases Nat.lt_or_ge j row.length with hq | hq
      · exact hq
      · rw [List.getElem?_eq_none hq] at hj; cases hj
    have hzs : z.size = sz := by have := DL_len h; rw [← hl, ← this]; simp
    obtain ⟨v, h1, h2⟩ := DL_get h j x hj
    have hlt : i * sz + j < n * sz := by
      have : (i + 1) * sz ≤ n * sz := Nat.mul_le_mul_right _ (by omega)
      rw [Nat.succ_mul] at this; omega
    refine ⟨v, ?_, h2⟩
    rw [hz _ hlt, hzs, Nat.add_comm, Nat.add_mul_mod_self_right, Nat.mod_eq_of_lt hj']
    simp only [Array.getElem?_toList] at h1
    simp only [getElem!_def, h1]
  · cases hi
theorem wrap_in {n : Int} (h1 : 0 ≤ n) (h2 : n ≤ 9223372036854775807) : IntKind.i64.wrap n = n := by
  simp [IntKind.wrap, IntKind.bits, IntKind.signed]; omega
theorem e_mkslice {d sz bytes : Nat} {zs : List K} {l c : XA} {n m : Int} {row : List D} {k1 k2 : IntKind} (hl : evA sl l = some (.d (.int k1 n))) (hc : evA sl c = some (.d (.int k2 m))) (hz : zrow zs = some row)
    (h0 : 0 ≤ n) (h1 : n ≤ m) (hb : m * bytes ≤ 2 ^ 48) (hd' : d < 1000) (g1 : nrS d sl = true) (g2 : nrOs d own = true) :
    EStep C ⟨sl, own⟩ (some d) (.mkslice sz bytes zs l c) ⟨(d, .osl d sz 0 n.toNat) :: sl, (d, .rows sz (List.replicate n.toNat row)) :: own⟩ := by
  intro o ho hd hf a w β S
  have hd := hd _ rfl
  simp only [fits] at hf
  split at hf
  · rename_i t p q hop
    simp only [Bool.and_eq_true] at hf
    obtain ⟨⟨h2, h3⟩, h4⟩ := hf
    have h3 := AR_of_fitA S h3 hl
    have h4 := AR_of_fitA S h4 hc
    rw [AR, DR] at h3 h4
    split at h2
    · rename_i e he
      simp only [Bool.and_eq_true] at h2
      obtain ⟨⟨⟨⟨e1, e2⟩, e3⟩, e4⟩, e5⟩ := h2
      have e4 := Nat.le_of_ble_eq_true e4
      have e5 := Nat.le_of_ble_eq_true e5
      obtain ⟨ti, zv, hti, hz2, hz3, hz4⟩ := zeroIs_some e3
      obtain ⟨ti', hti', htb⟩ := byIs_some e2
      rw [hti] at hti'; cases hti'
      subst htb
      have hm : m ≤ 9223372036854775807 := by
        have : m * 1 ≤ m * ti.bytes := Int.mul_le_mul_of_nonneg_left (by omega) (by omega)
        omega
      have hw1 : IntKind.i64.wrap n = n := wrap_in h0 (by omega)
      have hw2 : IntKind.i64.wrap m = m := wrap_in (by omega) hm
      have hty : (typeInfo e).run C.P w = .ok ti w := by simp [typeInfo, hti]
      have hzv : (zeroValue e).run C.P w = .ok zv w := by simp [zeroValue, typeInfo, hti, hz2]
      have hA := fitZ_AL (X := C.X) (β := β) (w := w) hz3
      have hD := toDs_DL hz hA
      have hrl : row.length = sz := by
        have q1 := szIs_some e1 w
        have q2 : (sizeOf e).run C.P w = .ok ti.size w := by simp [sizeOf, typeInfo, hti]
        rw [q2] at q1; simp at q1
        rw [toDs_len hz]; simp; omega
      have hbig : ¬ ((ti.bytes : Int) * m > 2 ^ 48) := by rw [Int.mul_comm]; omega
      have hne : ¬ (((m < 0 ∨ (ti.bytes : Int) * m > 2 ^ 48) ∨ n < 0) ∨ n > m) := by
        rintro (((h | h) | h) | h)
        · omega
        · exact hbig h
        · omega
        · omega
      have fin : ∀ zc : Array Value, (m.toNat * sz ≠ 0 → zc = zv.cells) → SatB C ⟨(d, .osl d sz 0 n.toNat) :: sl, (d, .rows sz (List.replicate n.toNat row)) :: own⟩ (a.put (some d) (.slice (some ⟨w.heap.size, 0, none⟩) n.toNat m.toNat))
          { w with heap := w.heap.push (.cells ((Array.range (m.toNat * sz)).map (zc[· % zc.size]!)) e) } (setN β d (some w.heap.size)) := by
        intro zc hzc
        have hRR : RowsR C.X β w sz (List.replicate n.toNat row) ((Array.range (m.toNat * sz)).map (zc[· % zc.size]!)) := by
          by_cases h : m.toNat * sz = 0
          · have : n.toNat = 0 := by
              have : m.toNat = 0 := by
                rcases Nat.mul_eq_zero.1 h with h | h
                · exact h
                · omega
              omega
            rw [this]; exact fun i r hi => by simp at hi
          · rw [hzc h]
            exact RowsR_zero (n := m.toNat) hD hrl (fun p hp => by simp [hp]) _ (by omega)
        refine (S.alloc' hd' g1 g2 (rows_new _ e (0, 0) (thaws_none _ _) hRR (by simp; exact Nat.mul_le_mul_right _ (by omega)))).put hd ?_
        rw [AR]
        refine ⟨some ⟨w.heap.size, 0, none⟩, m.toNat, rfl, by omega, .inr ⟨w.heap.size, _, e, (0, 0), by simp [setN_nm], by simp, heap_push_new, by simp⟩⟩
      have hiw : ∀ (k : IntKind) (v : Int), (asInt (.int k v)).run C.P w = .ok v w := fun k v => by simp [asInt, asIntOf]
      by_cases hlen : m.toNat * sz = 0
      · refine ⟨_, _, _, ?_, .inr ⟨_, rfl, fin #[] (fun h => absurd hlen h)⟩⟩
        simp only [execOp, hop, h3, h4, Instr.makeSlice, Sem.run_bind, run_underlying (sliceOf_some he), Result.andThen_ok, hiw, hty, hw1, hw2, Sem.run_pure]
        rw [if_neg (by simpa only [Bool.or_eq_true, decide_eq_true_eq] using hne)]
        simp only [Sem.run_bind, askRoom_run, Result.andThen_ok, szIs_some e1, hlen, if_true, Sem.run_pure]
        simp [newRow, newObj, Sem.run]
      · refine ⟨_, _, _, ?_, .inr ⟨_, rfl, fin zv.cells (fun _ => rfl)⟩⟩
        simp only [execOp, hop, h3, h4, Instr.makeSlice, Sem.run_bind, run_underlying (sliceOf_some he), Result.andThen_ok, hiw, hty, hw1, hw2, Sem.run_pure]
        rw [if_neg (by simpa only [Bool.or_eq_true, decide_eq_true_eq] using hne)]
        simp only [Sem.run_bind, askRoom_run, Result.andThen_ok, szIs_some e1, hlen, if_false, hzv, Sem.run_pure]
        simp [newRow, newObj, Sem.run]
    · cases h2
  · cases hf
end
end Go.AM

namespace Go.AM
section
variable {C : Cx} {sl : List (Nat × AV)} {own : List (Nat × OB)}
theorem bytes_DL {X : Nat → Prop} {β : Names} {w : World} : ∀ {bs : List UInt8} {vs : List Value}, vs.length = bs.length → RowsR X β w 1 (bs.map byteRow) vs.toArray → vs = bs.map (fun b => Value.int .u8 b.toNat)
  | [], [], _, _ => rfl
  | b :: bs, v :: vs, hl, h => by
    have h0 := h 0 (byteRow b) (by simp)
    obtain ⟨u, h1, h2⟩ := h0.2 0 (.int .u8 b.toNat) rfl
    simp at h1; subst h1
    rw [DR] at h2; subst h2
    rw [List.map_cons]
    congr 1
    refine bytes_DL (X := X) (β := β) (w := w) (by simpa using hl) (fun i r hi => ?_)
    obtain ⟨h3, h4⟩ := h (i + 1) r (by simpa using hi)
    refine ⟨h3, fun j x hj => ?_⟩
    obtain ⟨u, h5, h6⟩ := h4 j x hj
    refine ⟨u, ?_, h6⟩
    simp only [Nat.mul_one, List.getElem?_toArray] at h5 ⊢
    rw [show i + 1 + j = (i + j) + 1 from by omega, List.getElem?_cons_succ] at h5
    exact h5
  | [], _ :: _, hl, _ => by simp at hl
  | _ :: _, [], hl, _ => by simp at hl
theorem pushes_run {P : Program} {w : World} (f : Value → ByteArray → Sem (ForInStep ByteArray)) (hf : ∀ (b : UInt8) (s : ByteArray), f (.int .u8 b.toNat) s = pure (.yield (s.push b))) :
    ∀ (bs : List UInt8) (s : ByteArray), (forIn (bs.map (fun b => Value.int .u8 b.toNat)) s f).run P w = .ok ⟨(s.data.toList ++ bs).toArray⟩ w
  | [], s => by
    simp only [List.map_nil, List.forIn_nil, Sem.run_pure, List.append_nil]
  | b :: bs, s => by
    simp only [List.map_cons, List.forIn_cons, Sem.run_bind, hf, Sem.run_pure, Result.andThen_ok]
    rw [pushes_run f hf bs]
    simp [ByteArray.push]
theorem q_b2s {st : St} {x : XA} {v : AV} {rows : List (List D)} {bs : List UInt8} (hx : evA st.sl x = some v) (hsrc : SrcOK C st 1 v rows) (hr : rows = bs.map byteRow) (hv : ∃ e sz s len, v = .osl e sz s len ∨ v = .zs sz ∨ v = .d (.sl sz rows)) :
    QStep C st (.b2s x) (.d (.str bs)) := by
  intro o hf a w β S
  simp only [fits] at hf
  split at hf
  · rename_i s t y hop
    simp only [Bool.and_eq_true] at hf
    obtain ⟨⟨h1, h2⟩, h3⟩ := hf
    have h3 := AR_of_fitA S h3 hx
    obtain ⟨hn, vs, hvl, hvr, hfc, _⟩ := hsrc a w β _ S h3
    subst hr
    have hvs := bytes_DL (by simpa using hvl) hvr
    split at h2
    · rename_i e he
      split at h2
      · rename_i hu8
        have hsl : ∃ ad n c, a.eval y = .slice ad n c := by
          obtain ⟨e', sz, s', len, hv | hv | hv⟩ := hv
          · subst hv; rw [AR] at h3; obtain ⟨ad, cap, h4, _⟩ := h3; exact ⟨_, _, _, h4⟩
          · subst hv; rw [AR] at h3; obtain ⟨ad, h4⟩ := h3; exact ⟨_, _, _, h4⟩
          · subst hv; rw [AR, DR] at h3; obtain ⟨ad, cap, h4, _⟩ := h3; exact ⟨_, _, _, h4⟩
        obtain ⟨ad, n, c, hs⟩ := hsl
        have hnn : n = bs.length := by
          have := hn w
          rw [hs] at this
          simp [Builtin.lenOf] at this
          exact this
        refine ⟨.string ⟨bs.toArray⟩, by rw [AR, DR], fun w' hw' => ?_⟩
        have hc : (Conv.bytesToString (a.eval y)).run C.P w' = .ok (.string ⟨bs.toArray⟩) w' := by
          rw [hs]
          cases ad with
          | none =>
            have hl : (Builtin.firstCells 1 bs.length (a.eval y)).run C.P w' = .ok vs.toArray w' := by
              have := hfc w' hw' bs.length (by simp)
              rw [Nat.mul_one] at this
              rw [← show vs.length = bs.length from by simpa using hvl, List.take_length] at this
              rw [← show vs.length = bs.length from by simpa using hvl]; exact this
            rw [hs] at hl
            simp only [Builtin.firstCells, Sem.run_pure, Result.ok.injEq, and_true] at hl
            have : vs = [] := by have := congrArg Array.toList hl; simpa using this.symm
            rw [this] at hvs
            have : bs = [] := by simpa using hvs.symm
            subst this
            simp [Conv.bytesToString]
            rfl
          | some ad =>
            have hl : (loadCells ad n).run C.P w' = .ok vs.toArray w' := by
              have := hfc w' hw' bs.length (by simp)
              rw [hs, Nat.mul_one, ← show vs.length = bs.length from by simpa using hvl, List.take_length] at this
              simp only [Builtin.firstCells, Nat.mul_one] at this
              rw [hnn, ← show vs.length = bs.length from by simpa using hvl]; exact this
            simp only [Conv.bytesToString, Sem.run_bind, hl, Result.andThen_ok]
            rw [← Array.forIn_toList, hvs]
            simp only
            rw [pushes_run _ (fun b s => by simp)]
            simp
        have hconv : (convert s t (a.eval y)).run C.P w' = .ok (.string ⟨bs.toArray⟩) w' := by
          rw [hs] at hc ⊢
          simp only [convert, Sem.run_bind, run_underlying (isStr_some h1), run_underlying (sliceOf_some he), Result.andThen_ok, run_underlying hu8, hc]
        simp only [execOp, hop, Sem.run_bind, hconv, Result.andThen_ok, Sem.run_pure]
      · cases h2
    · cases h2
  · cases hf
end
end Go.AM

namespace Go.AM
theorem RowsR_drop {X : Nat → Prop} {β : Names} {w : World} {sz : Nat} {rs : List (List D)} {vs : List Value} (h : RowsR X β w sz rs vs.toArray) (n : Nat) : RowsR X β w sz (rs.drop n) (vs.drop (n * sz)).toArray := by
  intro i r hi
  rw [List.getElem?_drop] at hi
  obtain ⟨h1, h2⟩ := h _ r hi
  refine ⟨h1, fun j x hj => ?_⟩
  obtain ⟨v, h3, h4⟩ := h2 j x hj
  refine ⟨v, ?_, h4⟩
  simp only [List.getElem?_toArray, List.getElem?_drop] at h3 ⊢
  rw [← Nat.add_assoc, ← Nat.add_mul]; exact h3
section
variable {C : Cx} {sl : List (Nat × AV)} {own : List (Nat × OB)}
end
end Go.AM

namespace Go.AM
theorem equal_slice_nil {P : Program} {t e : TypeId} (hu : P.underlying t = some (.slice e)) (a : Option Addr) (n c : Nat) (w : World) : (Op.equal t (.slice a n c) (.slice none 0 0)).run P w = .ok a.isNone w := by
  refine run_equal fun d => ?_
  cases a with
  | none => simp [Op.equalIn, run_underlying hu]
  | some x => simp [Op.equalIn, run_underlying hu]
section
variable {C : Cx} {q : Bool} {gs : List Gd} {K : St → Prop} {sl : List (Nat × AV)} {own : List (Nat × OB)}
theorem ax_eqn_any {d : Nat} {neg : Bool} {x : XA} {v : AV} {its : List XI} (hx : evA sl x = some v) (good : Bool → Prop)
    (hv : ∀ β w u, HR C.X β own w → AR C.X β w v u → ∃ a n c, u = .slice a n c ∧ good a.isNone)
    (h : ∀ b : Bool, good b → AXI C q gs its ⟨(d, .d (.bool (bif neg then !b else b))) :: sl, own⟩ K) : AXI C q gs (.op (some d) (.eqn neg x) :: its) ⟨sl, own⟩ K := by
  intro ops W R lo i k hf rest a w S G H
  obtain ⟨m, h1, h2, h3, h4⟩ := fitIs_cons hf
  obtain ⟨o, ho, hg, hd, hfr, hfx, rfl⟩ := op_fit h1
  rw [range_split (by omega) h4, range_one, List.append_assoc, List.singleton_append]
  obtain ⟨β, S⟩ := S
  simp only [fits] at hfx
  split at hfx
  · rename_i op' t p z t' hop
    simp only [Bool.and_eq_true, decide_eq_true_eq] at hfx
    obtain ⟨⟨⟨rfl, e1⟩, e2⟩, e3⟩ := hfx
    have h5 := AR_of_fitA S e2 hx
    obtain ⟨ad, n, c, h6, h7⟩ := hv β w _ S.hr h5
    have hz : a.eval z = .slice none 0 0 := by
      unfold fitA at e3
      split at e3
      · rename_i hh; cases hh
      · rename_i hh; cases hh
        unfold fitK at e3
        split at e3 <;> first | (cases e3; done) | skip
        all_goals first | (rename_i hh; cases hh; done) | (rename_i hh _; cases hh; done) | skip
        rfl
      · rename_i hh; cases hh
      · rename_i hh; cases hh
      · cases e3
    split at e1
    · rename_i e hu
      refine R.val i _ a w o (.bool (bif neg then !ad.isNone else ad.isNone)) ho (wanted_of hg G) (fun w' _ => ?_) ?_
      · cases neg
        · simp only [execOp, hop, h6, hz, eqGuard, binOp, Sem.run_bind, equal_slice_nil hu, Bool.false_eq_true, if_false]
          rfl
        · simp only [execOp, hop, h6, hz, eqGuard, binOp, Sem.run_bind, equal_slice_nil hu, if_true]
          rfl
      · rw [hd]
        exact h ad.isNone h7 ops W R lo (i + 1) k h2 rest _ w ⟨β, S.put (dstFree_lt hfr d rfl) (by rw [AR, DR])⟩ (G.put hfr) H
    · cases e1
  · cases hfx
theorem ax_eqn_sl {d sz : Nat} {neg : Bool} {x : XA} {rows : List (List D)} {its : List XI} (hx : evA sl x = some (.d (.sl sz rows)))
    (h : ∀ b : Bool, (b = true → rows = []) → AXI C q gs its ⟨(d, .d (.bool (bif neg then !b else b))) :: sl, own⟩ K) : AXI C q gs (.op (some d) (.eqn neg x) :: its) ⟨sl, own⟩ K :=
  ax_eqn_any hx (fun b => b = true → rows = []) (fun β w u _ hu => by
    rw [AR, DR] at hu
    obtain ⟨a, cap, h1, h2, h3⟩ := hu
    refine ⟨a, _, cap, h1, fun hn => ?_⟩
    rcases h3 with h3 | ⟨b, o, rfl, _⟩
    · exact h3
    · cases hn) h
end
/-- Slots written over. -/
def upds : List (Nat × AV) → List (Nat × AV) → List (Nat × AV)
  | u, [] => u
  | u, (t, x) :: r => match get u t with
    | some _ => upds u r
    | none => (t, x) :: upds u r
theorem cx_loopU {C : Cx} {Ke : List (Nat × Kont)} {Kn Kr : Kont} {a : XCode} {sl : List (Nat × AV)} {own : List (Nat × OB)} {α : Type} (φ : Nat → α → Prop) (u : α → List (Nat × AV)) (o : α → List (Nat × OB))
    (h0 : ∃ n p, φ n p ∧ St.le ⟨upds (u p) sl, o p⟩ ⟨sl, own⟩)
    (h : ∀ n p, φ n p → AX C a ⟨upds (u p) sl, o p⟩ (fun st' => ∃ m p', m < n ∧ φ m p' ∧ St.le ⟨upds (u p') sl, o p'⟩ st') Ke Kr) : AX C (.loop a) ⟨sl, own⟩ Kn Ke Kr := by
  obtain ⟨n, p, h1, h2⟩ := h0
  refine cx_loop (fun n st => ∃ p, φ n p ∧ st = ⟨upds (u p) sl, o p⟩) ⟨n, _, ⟨p, h1, rfl⟩, h2⟩ ?_
  rintro n st ⟨p, hp, rfl⟩
  exact (h n p hp).mono (fun st' ⟨m, p', h3, h4, h5⟩ => ⟨m, h3, _, ⟨p', h4, rfl⟩, h5⟩) (fun _ h => h)
end Go.AM

namespace Go.AM
section unren
variable {X X' : Nat → Prop} {β β' : Names} {w : World} {N : List Nat} {τ : Nat → Nat}
mutual
/-- From the caller's names to the callee's. -/
theorem AR.unren (hn : ∀ e ∈ N, β' e = β (τ e)) (hok : ∀ b, okf X β b → okf X' β' b) : ∀ (x : AV) (v : Value), refsIn N x = true → AR X β w (renA τ x) v → AR X' β' w x v
  | .ptr e o, v, hr, h => by
    rw [renA, AR] at h; rw [AR]; rw [refsIn, memb_iff] at hr
    obtain ⟨b, h1, h2⟩ := h
    exact ⟨b, by rw [hn e hr]; exact h1, h2⟩
  | .rptr e sz i o, v, hr, h => by
    rw [renA, AR] at h; rw [AR]; rw [refsIn, memb_iff] at hr
    obtain ⟨b, h1, h2⟩ := h
    exact ⟨b, by rw [hn e hr]; exact h1, h2⟩
  | .osl e sz s len, v, hr, h => by
    rw [renA, AR] at h; rw [AR]; rw [refsIn, memb_iff] at hr
    obtain ⟨a, cap, h1, h2, h3⟩ := h
    exact ⟨a, cap, h1, h2, h3.imp id fun ⟨b, c, ty, fr, h4, h5⟩ => ⟨b, c, ty, fr, by rw [hn e hr]; exact h4, h5⟩⟩
  | .oslc e sz s len cap, v, hr, h => by
    rw [renA, AR] at h; rw [AR]; rw [refsIn, memb_iff] at hr
    obtain ⟨a, h1, h2, h3⟩ := h
    exact ⟨a, h1, h2, h3.imp id fun ⟨b, c, ty, fr, h4, h5⟩ => ⟨b, c, ty, fr, by rw [hn e hr]; exact h4, h5⟩⟩
  | .agg cs, v, hr, h => by
    rw [renA, AR] at h; rw [AR]; rw [refsIn] at hr
    obtain ⟨vs, h1, h2⟩ := h
    exact ⟨vs, h1, AL.unren hn hok cs _ hr h2⟩
  | .tup cs, v, hr, h => by
    rw [renA, AR] at h; rw [AR]; rw [refsIn] at hr
    obtain ⟨vs, h1, h2⟩ := h
    exact ⟨vs, h1, AL.unren hn hok cs _ hr h2⟩
  | .fn f cs, v, hr, h => by
    rw [renA, AR] at h; rw [AR]; rw [refsIn] at hr
    obtain ⟨vs, h1, h2⟩ := h
    exact ⟨vs, h1, AL.unren hn hok cs _ hr h2⟩
  | .bfn f cs, v, hr, h => by
    rw [renA, AR] at h; rw [AR]; rw [refsIn] at hr
    obtain ⟨vs, h1, h2⟩ := h
    exact ⟨vs, h1, AL.unren hn hok cs _ hr h2⟩
  | .d x, v, _, h => by
    rw [renA, AR] at h; rw [AR]
    exact DR.mono ⟨Nat.le_refl _, fun _ _ _ => rfl, fun b hb _ => hok b hb⟩ x v h
  | .zs sz, v, _, h => by rw [renA, AR] at h; rw [AR]; exact h
  | .raw u, v, _, h => by rw [renA, AR] at h; rw [AR]; exact h
  | .dead, v, _, _ => by rw [AR]; trivial
theorem AL.unren (hn : ∀ e ∈ N, β' e = β (τ e)) (hok : ∀ b, okf X β b → okf X' β' b) : ∀ (xs : List AV) (vs : List Value), refsInL N xs = true → AL X β w (renL τ xs) vs → AL X' β' w xs vs
  | [], vs, _, h => by rw [renL, AL] at h; rw [AL]; exact h
  | x :: xs, vs, hr, h => by
    rw [renL, AL] at h; rw [AL]
    rw [refsInL, Bool.and_eq_true] at hr
    obtain ⟨v, r, h1, h2, h3⟩ := h
    exact ⟨v, r, h1, AR.unren hn hok x v hr.1 h2, AL.unren hn hok xs r hr.2 h3⟩
end
theorem OBR.unren (hn : ∀ e ∈ N, β' e = β (τ e)) (hok : ∀ b, okf X β b → okf X' β' b) {ob : OB} {b : Option Nat} {e e' : Nat} (hhd : ∀ j, β'.hd e j = β.hd e' j) (hr : refsInO N ob = true) (h : OBR X β w (renO τ ob) b e') : OBR X' β' w ob b e := by
  cases ob with
  | box cells =>
    cases b with
    | none => exact h.elim
    | some k =>
      obtain ⟨c, ty, fr, h1, h2, h3⟩ := h
      exact ⟨c, ty, fr, h1, h2, AL.unren hn hok _ _ hr h3⟩
  | rows sz rs =>
    cases b with
    | none => exact h
    | some k =>
      obtain ⟨c, ty, fr, h1, h2, h3, h4⟩ := h
      exact ⟨c, ty, fr, h1, h2, h3, h4.mono ⟨Nat.le_refl _, fun _ _ _ => rfl, fun b hb _ => hok b hb⟩⟩
  | junk =>
    cases b with
    | none => trivial
    | some k => exact h
  | deep sz rs h0 =>
    cases b with
    | none =>
      obtain ⟨h1, h2⟩ := h
      exact ⟨h1, List.map_eq_nil_iff.1 h2⟩
    | some k =>
      obtain ⟨c, ty, fr, h1, h2, h3, h4, h5⟩ := h
      refine ⟨c, ty, fr, h1, h2, h3, fun i r hi => ?_, h5⟩
      obtain ⟨q1, q2⟩ := h4 i r hi
      refine ⟨q1, fun j x hj => ?_⟩
      obtain ⟨v, q3, q4⟩ := q2 j x hj
      rw [hole_map] at q4
      refine ⟨v, q3, q4.ren hhd (fun k hk => ?_) (fun hk => ?_)⟩
      · rw [Option.map_eq_some_iff] at hk
        obtain ⟨n, h6, rfl⟩ := hk
        exact ⟨n, h6, hn n (refsInO_ren hr _ (hole_some h6))⟩
      · rwa [Option.map_eq_none_iff] at hk
end unren
/-- What is handed on: what is passed with its block, what is plain, what is lent. -/
inductive LB (σ : Nat → Nat) (N0 : List Nat) (own2 : List (Nat × OB)) : List AV → List AV → Prop
  | nil : LB σ N0 own2 [] []
  | pass {x y : AV} {xs ys : List AV} (h : renA σ y = x) (hr : refsIn N0 y = true) (hs : LB σ N0 own2 xs ys) : LB σ N0 own2 (x :: xs) (y :: ys)
  | lend {x y : AV} {xs ys : List AV} (h : LA own2 x y) (hs : LB σ N0 own2 xs ys) : LB σ N0 own2 (x :: xs) (y :: ys)
  | nilS {z e sz : Nat} {xs ys : List AV} (hs : LB σ N0 own2 xs ys) : LB σ N0 own2 (.zs z :: xs) (.osl e sz 0 0 :: ys)
def ownIs (σ : Nat → Nat) (own : List (Nat × OB)) : List (Nat × OB) → Prop
  | [] => True
  | (e, ob) :: r => get own (σ e) = some (renO σ ob) ∧ ownIs σ own r
theorem ownIs_get {σ : Nat → Nat} {own : List (Nat × OB)} : ∀ {h : List (Nat × OB)} {e : Nat} {ob : OB}, ownIs σ own h → get h e = some ob → get own (σ e) = some (renO σ ob)
  | (k, o) :: r, e, ob, h, hg => by
    rw [ownIs] at h
    rw [get_cons] at hg
    split at hg
    · rename_i hk; subst hk; cases hg; exact h.1
    · exact ownIs_get h.2 hg
def distinct : List Nat → Bool
  | [] => true
  | x :: xs => !memb x xs && distinct xs
theorem distinct_inj {σ : Nat → Nat} : ∀ {N : List Nat}, distinct (N.map σ) = true → ∀ e ∈ N, ∀ e' ∈ N, σ e = σ e' → e = e'
  | k :: ks, h, e, he, e', he', hs => by
    simp only [List.map_cons, distinct, Bool.and_eq_true, Bool.not_eq_true'] at h
    obtain ⟨h2, h3⟩ := h
    have h2' : σ k ∉ ks.map σ := fun hm => by rw [memb_iff.2 hm] at h2; cases h2
    rcases List.mem_cons.1 he with q1 | q1 <;> rcases List.mem_cons.1 he' with q2 | q2
    · rw [q1, q2]
    · rw [q1] at hs; exact absurd (hs ▸ List.mem_map_of_mem q2) h2'
    · rw [q2] at hs; exact absurd (hs ▸ List.mem_map_of_mem q1) h2'
    · exact distinct_inj h3 e q1 e' q2 hs
/-- The names 'M' struck from the slots, and from the boxes. -/
def dropRs : List Nat → List (Nat × AV) → List (Nat × AV)
  | [], sl => sl
  | e :: es, sl => dropRs es (dropR e sl)
def dropOs : List Nat → List (Nat × OB) → List (Nat × OB)
  | [], own => own
  | e :: es, own => dropOs es (dropO e own)
theorem dropRs_get : ∀ {M : List Nat} {sl : List (Nat × AV)} {t : Nat} {x : AV}, get (dropRs M sl) t = some x → x = .dead ∨ (get sl t = some x ∧ ∀ e ∈ M, nrA e x = true)
  | [], sl, t, x, h => .inr ⟨h, fun e he => (by cases he)⟩
  | e :: es, sl, t, x, h => by
    rw [dropRs] at h
    rcases dropRs_get h with h1 | ⟨h1, h2⟩
    · exact .inl h1
    · have key : ∀ (sl : List (Nat × AV)) (t : Nat) (x : AV), get (dropR e sl) t = some x → x = .dead ∨ (get sl t = some x ∧ nrA e x = true) := by
        intro sl
        induction sl with
        | nil => intro t x h; simp [dropR, get] at h
        | cons p r ih =>
          intro t x h
          obtain ⟨k, y⟩ := p
          rw [dropR] at h
          cases hn : nrA e y with
          | true =>
            rw [hn, cond_true, get_cons] at h
            rw [get_cons]
            split at h
            · rename_i hk; rw [if_pos hk]; cases h; exact .inr ⟨rfl, hn⟩
            · rename_i hk; rw [if_neg hk]; exact ih t x h
          | false =>
            rw [hn, cond_false, get_cons] at h
            rw [get_cons]
            split at h
            · cases h; exact .inl rfl
            · rename_i hk; rw [if_neg hk]; exact ih t x h
      rcases key sl t x h1 with h3 | ⟨h3, h4⟩
      · exact .inl h3
      · exact .inr ⟨h3, fun e' he' => by
          rcases List.mem_cons.1 he' with rfl | he'
          · exact h4
          · exact h2 e' he'⟩
mutual
theorem nrA_pg {m : Nat} (q : Nat → Bool) : ∀ x, nrA m x = true → nrA m (pg q x) = true
  | .ptr e o, h => by rw [pg]; cases q e; exact h; rfl
  | .rptr e sz i o, h => by rw [pg]; cases q e; exact h; rfl
  | .osl e sz s len, h => by rw [pg]; cases q e; exact h; rfl
  | .oslc e sz s len cap, h => by rw [pg]; cases q e; exact h; rfl
  | .agg cs, h => by rw [nrA] at h; rw [pg, nrA]; exact nrL_pg q cs h
  | .tup cs, h => by rw [nrA] at h; rw [pg, nrA]; exact nrL_pg q cs h
  | .fn f cs, h => by rw [nrA] at h; rw [pg, nrA]; exact nrL_pg q cs h
  | .bfn f cs, h => by rw [nrA] at h; rw [pg, nrA]; exact nrL_pg q cs h
  | .d x, h => by rw [pg]; exact h
  | .zs sz, h => by rw [pg]; exact h
  | .raw v, h => by rw [pg]; exact h
  | .dead, h => by rw [pg]; exact h
theorem nrL_pg {m : Nat} (q : Nat → Bool) : ∀ xs, nrL m xs = true → nrL m (pgL q xs) = true
  | [], h => by rw [pgL]; exact h
  | x :: xs, h => by
    rw [nrL, Bool.and_eq_true] at h
    rw [pgL, nrL, Bool.and_eq_true]
    exact ⟨nrA_pg q x h.1, nrL_pg q xs h.2⟩
end
theorem nrO_drop {m : Nat} {ob : OB} (q : Nat → Bool) (h : nrO m ob = true) : nrO m (pgO q ob) = true := by
  cases ob with
  | rows sz rs => rfl
  | box cs => rw [nrO] at h; rw [pgO, nrO]; exact nrL_pg q cs h
  | junk => rfl
  | deep sz rs hs =>
    rw [pgO]
    cases hs.any (fun h => q h.2.2) with
    | true => rfl
    | false => exact h
theorem dropO_nr {m e : Nat} : ∀ {own : List (Nat × OB)}, nrOs m own = true → nrOs m (dropO e own) = true
  | [], _ => rfl
  | (k, ob) :: r, h => by
    rw [nrOs, Bool.and_eq_true] at h
    rw [dropO, nrOs, Bool.and_eq_true]
    refine ⟨?_, dropO_nr h.2⟩
    cases nrO e ob with
    | true => exact h.1
    | false => exact nrO_drop _ h.1
theorem dropOs_nr {m : Nat} : ∀ {M : List Nat} {own : List (Nat × OB)}, nrOs m own = true → nrOs m (dropOs M own) = true
  | [], _, h => h
  | e :: es, own, h => by rw [dropOs]; exact dropOs_nr (dropO_nr h)
theorem Fr.comp {β0 β : Names} {w0 w w' : World} (H : Fr β0 w0 w) (F : Fr β w w') (hm : ∀ b, ownd β b → w0.heap.size ≤ b ∨ ownd β0 b) : Fr β0 w0 w' :=
  ⟨F.os.trans H.os, F.tape.trans H.tape, F.output.trans H.output, Nat.le_trans H.size F.size, fun b hb hn => by
      rw [F.same b (Nat.lt_of_lt_of_le hb H.size) (fun h => by
        rcases hm b h with h1 | h1
        · omega
        · exact hn h1), H.same b hb hn],
    fun b c ty fr hb => by
      obtain ⟨c', ty', fr', h1, h2⟩ := H.bsize b c ty fr hb
      obtain ⟨c2, ty2, fr2, h3, h4⟩ := F.bsize b c' ty' fr' h1
      exact ⟨c2, ty2, fr2, h3, h4.trans h2⟩⟩
theorem SatB.strike {C : Cx} {a : Act} {w : World} {β : Names} : ∀ {M : List Nat} {sl : List (Nat × AV)} {own : List (Nat × OB)}, SatB C ⟨sl, own⟩ a w β → SatB C ⟨dropRs M sl, dropOs M own⟩ a w β
  | [], sl, own, S => S
  | e :: es, sl, own, S => by
    rw [dropRs, dropOs]
    refine SatB.strike ?_
    have := (S.purge (Nat.beq e)).drop
    rwa [← dropO_eq] at this
/-- The names of the caller's that the callee may move to other blocks. -/
def mvd (mv : Nat → Bool) (σ : Nat → Nat) : List Nat → List Nat
  | [] => []
  | e :: es => bif mv e then σ e :: mvd mv σ es else mvd mv σ es
theorem mvd_mem {mv : Nat → Bool} {σ : Nat → Nat} : ∀ {N : List Nat} {e : Nat}, e ∈ N → mv e = true → σ e ∈ mvd mv σ N
  | k :: ks, e, he, hm => by
    rw [mvd]
    rcases List.mem_cons.1 he with rfl | he
    · rw [hm]; exact List.mem_cons_self
    · cases mv k with
      | true => exact List.mem_cons_of_mem _ (mvd_mem he hm)
      | false => exact mvd_mem he hm
def outO (M : List Nat) : List (Nat × OB) → List (Nat × OB)
  | [] => []
  | (e, ob) :: r => bif memb e M then outO M r else (e, ob) :: outO M r
theorem outO_get {M : List Nat} : ∀ {own : List (Nat × OB)} {e : Nat} {ob : OB}, get (outO M own) e = some ob → e ∉ M ∧ get own e = some ob
  | (k, o) :: r, e, ob, h => by
    rw [outO] at h
    cases hm : memb k M with
    | true =>
      rw [hm, cond_true] at h
      obtain ⟨h1, h2⟩ := outO_get h
      refine ⟨h1, ?_⟩
      rw [get_cons_ne o r (fun he => h1 (by rw [← he]; exact memb_iff.1 hm))]
      exact h2
    | false =>
      rw [hm, cond_false, get_cons] at h
      split at h
      · rename_i hk; subst hk; cases h
        exact ⟨fun hh => (by rw [memb_iff.2 hh] at hm; cases hm), get_cons_self _ _ _⟩
      · rename_i hk
        obtain ⟨h1, h2⟩ := outO_get h
        exact ⟨h1, by rw [get_cons, if_neg hk]; exact h2⟩
def mvOK (mv mvc : Nat → Bool) (σ : Nat → Nat) : List Nat → Bool
  | [] => true
  | e :: es => (!mv e || Nat.ble (σ e + 1) 1000 || mvc (σ e)) && mvOK mv mvc σ es
theorem mvOK_mem {mv mvc : Nat → Bool} {σ : Nat → Nat} : ∀ {N : List Nat} {e : Nat}, mvOK mv mvc σ N = true → e ∈ N → mv e = true → 1000 ≤ σ e → mvc (σ e) = true
  | k :: ks, e, h, he, hm, hl => by
    simp only [mvOK, Bool.and_eq_true, Bool.or_eq_true, Bool.not_eq_true'] at h
    rcases List.mem_cons.1 he with rfl | he
    · rcases h.1 with (h1 | h1) | h1
      · rw [hm] at h1; cases h1
      · have := Nat.le_of_ble_eq_true h1; omega
      · exact h1
    · exact mvOK_mem h.2 he hm hl
def allBig : List Nat → Bool
  | [] => true
  | e :: es => Nat.ble 1000 e && allBig es
theorem allBig_mem : ∀ {N : List Nat} {e : Nat}, allBig N = true → e ∈ N → 1000 ≤ e
  | k :: ks, e, h, he => by
    simp only [allBig, Bool.and_eq_true] at h
    rcases List.mem_cons.1 he with rfl | he
    · exact Nat.le_of_ble_eq_true h.1
    · exact allBig_mem h.2 he
def goneO (own : List (Nat × OB)) : List Nat → Bool
  | [] => true
  | e :: es => nrOs e own && goneO own es
theorem goneO_mem {own : List (Nat × OB)} : ∀ {M : List Nat} {e : Nat}, goneO own M = true → e ∈ M → nrOs e own = true
  | k :: ks, e, h, he => by
    simp only [goneO, Bool.and_eq_true] at h
    rcases List.mem_cons.1 he with rfl | he
    · exact h.1
    · exact goneO_mem h.2 he
/-- What such a call is given. -/
structure CallB (own : List (Nat × OB)) (mv mvc : Nat → Bool) (σ : Nat → Nat) (N0 : List Nat) (h0 : List (Nat × OB)) : Prop where
  domIn : domIn N0 h0 = true
  dom : domIs h0 N0 = true
  big : allBig N0 = true
  dist : distinct (N0.map σ) = true
  has : ownIs σ own h0
  refs : refsInOs N0 h0 = true
  mvs : mvOK mv mvc σ N0 = true
  gone : goneO (dropOs (mvd mv σ N0) own) (mvd mv σ N0) = true
/-- What such a call may hand on. -/
structure ResB (sl : List (Nat × AV)) (own : List (Nat × OB)) (sc : Bool) (σ : Nat → Nat) (N0 : List Nat) (τ : Nat → Nat) (N1 : List Nat) (r : AV) (h' : List (Nat × OB)) : Prop where
  refs : refsIn (N0 ++ N1) r = true
  dom : domIs h' (N0 ++ N1) = true
  domIn : AM.domIn (N0 ++ N1) h' = true
  refsO : refsInOs (N0 ++ N1) h' = true
  same : ∀ e ∈ N0, τ e = σ e
  free : freeN sl own (N1.map τ) = true
  dist : distinct ((N0 ++ N1).map τ) = true
  sc : sc = true → noIsl r = true ∧ ∀ e ob, get h' e = some ob → noIslO ob
noncomputable def subN (σ : Nat → Nat) (N : List Nat) (β : Names) : Names := ⟨fun e => bif memb e N then β (σ e) else none, fun e j => bif memb e N then β.hd (σ e) j else none⟩
theorem LB.al {X X' : Nat → Prop} {β β' : Names} {w : World} {σ : Nat → Nat} {N0 : List Nat} {own2 : List (Nat × OB)} (H : HR X β own2 w) (hn : ∀ e ∈ N0, β' e = β (σ e)) (hok1 : ∀ b, okf X β b → okf X' β' b)
    (hok2 : ∀ e b, (get own2 e).isSome = true → β e = some b → okf X' β' b) (hok3 : ∀ e j b, (get own2 e).isSome = true → β.hd e j = some b → okf X' β' b) : ∀ {xs ys : List AV}, LB σ N0 own2 xs ys → ∀ {vs : List Value}, AL X β w xs vs → AL X' β' w ys vs
  | _, _, .nil, vs, h => by rw [AL] at h ⊢; exact h
  | _, _, .pass h1 h2 h3, vs, h => by
    rw [AL] at h ⊢
    obtain ⟨v, r, rfl, h4, h5⟩ := h
    subst h1
    exact ⟨v, r, rfl, AR.unren hn hok1 _ _ h2 h4, LB.al H hn hok1 hok2 hok3 h3 h5⟩
  | _, _, .lend h1 h3, vs, h => by
    rw [AL] at h ⊢
    obtain ⟨v, r, rfl, h4, h5⟩ := h
    exact ⟨v, r, rfl, LA.ar H hok1 hok2 hok3 h1 h4, LB.al H hn hok1 hok2 hok3 h3 h5⟩
  | _, _, .nilS h3, vs, h => by
    rw [AL] at h ⊢
    obtain ⟨v, r, rfl, h4, h5⟩ := h
    refine ⟨v, r, rfl, ?_, LB.al H hn hok1 hok2 hok3 h3 h5⟩
    simp only [AR] at h4 ⊢
    obtain ⟨a, rfl⟩ := h4
    exact ⟨a, 0, rfl, Nat.le_refl _, .inl rfl⟩
theorem vcall_own {P : Program} {mv mvc : Nat → Bool} {f : Nat} {args0 : List AV} {h0 : List (Nat × OB)} {post : AV → List (Nat × OB) → Prop} (hcon : Con P mv f args0 h0 post) {C : Cx} (hP : C.P = P) (hmv : C.mv = mvc)
    {sl : List (Nat × AV)} {own : List (Nat × OB)} {vs : List AV} {K : AV → St → Prop} (sc : Bool) (σ : Nat → Nat) (N0 : List Nat) (B : CallB own mv mvc σ N0 h0) (hA : LB σ N0 (bif sc then outO (N0.map σ) own else []) vs args0)
    (hres : ∀ r h', post r h' → ∃ τ N1, ResB sl own sc σ N0 τ N1 r h' ∧ K (renA τ r) ⟨dropRs (mvd mv σ N0) sl, renOs τ h' ++ dropOs (mvd mv σ N0) own⟩) : VCall C ⟨sl, own⟩ f vs K := by
  intro a w β us S A
  subst hP
  have hinj0 := distinct_inj B.dist
  let Xc : Nat → Prop := fun b => C.X b ∨ (sc = false ∧ ∃ n, n ∉ N0.map σ ∧ own1 β n b)
  let βc : Names := subN σ N0 β
  have hc1 : ∀ e ∈ N0, βc e = β (σ e) := fun e he => by show (bif memb e N0 then _ else _) = _; rw [memb_iff.2 he]; rfl
  have hc1h : ∀ e ∈ N0, ∀ j, βc.hd e j = β.hd (σ e) j := fun e he j => by show (bif memb e N0 then _ else _) = _; rw [memb_iff.2 he]; rfl
  have hc2 : ∀ e b, βc e = some b → e ∈ N0 ∧ β (σ e) = some b := fun e b h => by
    change (bif memb e N0 then _ else _) = some b at h
    cases hm : memb e N0 with
    | true => rw [hm] at h; exact ⟨memb_iff.1 hm, h⟩
    | false => rw [hm] at h; cases h
  have hc2h : ∀ e j b, βc.hd e j = some b → e ∈ N0 ∧ β.hd (σ e) j = some b := fun e j b h => by
    change (bif memb e N0 then _ else _) = some b at h
    cases hm : memb e N0 with
    | true => rw [hm] at h; exact ⟨memb_iff.1 hm, h⟩
    | false => rw [hm] at h; cases h
  have hc21 : ∀ e b, own1 βc e b → e ∈ N0 ∧ own1 β (σ e) b := fun e b h => by
    rcases h with h | ⟨j, h⟩
    · exact ⟨(hc2 e b h).1, .inl (hc2 e b h).2⟩
    · exact ⟨(hc2h e j b h).1, .inr ⟨j, (hc2h e j b h).2⟩⟩
  have hok1 : ∀ b, okf C.X β b → okf Xc βc b := fun b hb => ⟨fun h => by
    rcases h with (h | ⟨_, n, _, h⟩) | ⟨e, j, h⟩
    · exact hb.1 (.inl h)
    · exact okf_own1 hb n h
    · exact okf_own1 hb _ (.inr ⟨j, (hc2h e j b h).2⟩), fun e h => hb.2 _ (hc2 e b h).2⟩
  have H2 : HR C.X β (bif sc then outO (N0.map σ) own else []) w := ⟨S.hr.inj, S.hr.lt, S.hr.notX, S.hr.hlt, S.hr.hinj, S.hr.hX, fun e ob h => by
    cases sc with
    | true => exact S.hr.own e ob (outO_get h).2
    | false => simp [get] at h⟩
  have hAL : AL Xc βc w args0 us := LB.al H2 hc1 hok1 (fun e b h1 h2 => by
    cases sc with
    | false => simp [get] at h1
    | true =>
      obtain ⟨ob, h3⟩ := Option.isSome_iff_exists.1 h1
      have h4 := (outO_get h3).1
      have key : ∀ e', ¬ own1 βc e' b := fun e' h5 => by
        obtain ⟨h6, h7⟩ := hc21 e' b h5
        exact h4 (by rw [S.hr.one (.inl h2) h7]; exact List.mem_map_of_mem h6)
      refine ⟨fun h => ?_, fun e' h5 => key e' (.inl h5)⟩
      rcases h with (h | ⟨h, _⟩) | ⟨e', j, h⟩
      · exact S.hr.notX e b h2 (.inl h)
      · cases h
      · exact key e' (.inr ⟨j, h⟩)) (fun e j b h1 h2 => by
    cases sc with
    | false => simp [get] at h1
    | true =>
      obtain ⟨ob, h3⟩ := Option.isSome_iff_exists.1 h1
      have h4 := (outO_get h3).1
      have key : ∀ e', ¬ own1 βc e' b := fun e' h5 => by
        obtain ⟨h6, h7⟩ := hc21 e' b h5
        exact h4 (by rw [S.hr.one (.inr ⟨j, h2⟩) h7]; exact List.mem_map_of_mem h6)
      refine ⟨fun h => ?_, fun e' h5 => key e' (.inl h5)⟩
      rcases h with (h | ⟨h, _⟩) | ⟨e', j', h⟩
      · exact S.hr.hX e j b h2 h
      · cases h
      · exact key e' (.inr ⟨j', h⟩)) hA A
  have hXlt : ∀ b, Xc b → b < w.heap.size := by
    rintro b (h | ⟨_, n, _, h⟩)
    · have := S.xlt b h; have := S.fr.size; omega
    · exact S.hr.lt1 h
  have H0 : HR Xc βc h0 w := {
    inj := fun e e' b h1 h2 => by
      obtain ⟨p1, p2⟩ := hc2 e b h1
      obtain ⟨q1, q2⟩ := hc2 e' b h2
      exact hinj0 e p1 e' q1 (S.hr.inj _ _ b p2 q2)
    lt := fun e b h1 => S.hr.lt _ b (hc2 e b h1).2
    notX := fun e b h1 hx => by
      obtain ⟨p1, p2⟩ := hc2 e b h1
      rcases hx with (hx | ⟨_, n, h3, h4⟩) | ⟨e', j, hx⟩
      · exact S.hr.notX _ b p2 (.inl hx)
      · exact h3 (by rw [S.hr.one h4 (.inl p2)]; exact List.mem_map_of_mem p1)
      · exact S.hr.notX _ b p2 (.inr ⟨_, j, (hc2h e' j b hx).2⟩)
    hlt := fun e j b h1 => S.hr.hlt _ j b (hc2h e j b h1).2
    hinj := fun e j e' j' b h1 h2 => by
      obtain ⟨p1, p2⟩ := hc2h e j b h1
      obtain ⟨q1, q2⟩ := hc2h e' j' b h2
      exact hinj0 e p1 e' q1 (S.hr.hinj _ _ _ _ b p2 q2)
    hX := fun e j b h1 hx => by
      obtain ⟨p1, p2⟩ := hc2h e j b h1
      rcases hx with hx | ⟨_, n, h3, h4⟩
      · exact S.hr.hX _ j b p2 hx
      · exact h3 (by rw [S.hr.one h4 (.inr ⟨j, p2⟩)]; exact List.mem_map_of_mem p1)
    own := fun e ob h1 => by
      have he := domIn_spec B.domIn e (by rw [h1]; rfl)
      rw [hc1 e he]
      exact OBR.unren (N := N0) hc1 hok1 (hc1h e he) (refsInOs_get B.refs h1) (S.hr.own _ _ (ownIs_get B.has h1)) }
  refine (hcon Xc βc w us hXlt (fun e b h => domIs_spec B.dom e (hc2 e b h).1) (fun e j b h => domIs_spec B.dom e (hc2h e j b h).1) H0 hAL (S.gok.sub (fun b h => h.imp id (fun ⟨_, n, _, h⟩ => own1_ownd h)) (fun b h => by obtain ⟨e, h⟩ := ownd_own1 h; exact own1_ownd (hc21 e b h).2))).mono ?_
  rintro e w' ⟨v, r, h', β', he, hp, hr, H', F, hdom, hdom2, hmine, hst⟩
  obtain ⟨τ, N1, R, hK⟩ := hres r h' hp
  have hfree := freeN_spec R.free
  have hinj := distinct_inj R.dist
  have S2 := S.strike (M := mvd mv σ N0)
  have hm1 : ∀ n, memb n ((N0 ++ N1).map τ) = true → mergeN τ (N0 ++ N1) β' β n = newN τ (N0 ++ N1) β' n := fun n h => by show (bif memb n ((N0 ++ N1).map τ) then _ else _) = _; rw [h]; rfl
  have hm2 : ∀ n, memb n ((N0 ++ N1).map τ) = false → mergeN τ (N0 ++ N1) β' β n = β n := fun n h => by show (bif memb n ((N0 ++ N1).map τ) then _ else _) = _; rw [h]; rfl
  have hk1 : ∀ n j, memb n ((N0 ++ N1).map τ) = true → (mergeN τ (N0 ++ N1) β' β).hd n j = (newN τ (N0 ++ N1) β').hd n j := fun n j h => by show (bif memb n ((N0 ++ N1).map τ) then _ else _) = _; rw [h]; rfl
  have hk2 : ∀ n j, memb n ((N0 ++ N1).map τ) = false → (mergeN τ (N0 ++ N1) β' β).hd n j = β.hd n j := fun n j h => by show (bif memb n ((N0 ++ N1).map τ) then _ else _) = _; rw [h]; rfl
  have hkN : ∀ e ∈ N0 ++ N1, ∀ j, (mergeN τ (N0 ++ N1) β' β).hd (τ e) j = β'.hd e j := fun e he j => by
    rw [hk1 _ j (memb_iff.2 (List.mem_map_of_mem he)), newN_hd hinj he]
  have hkc : ∀ n j b, (mergeN τ (N0 ++ N1) β' β).hd n j = some b → (∃ e ∈ N0 ++ N1, τ e = n ∧ β'.hd e j = some b) ∨ (memb n ((N0 ++ N1).map τ) = false ∧ β.hd n j = some b) := fun n j b h => by
    cases hm : memb n ((N0 ++ N1).map τ) with
    | true => rw [hk1 n j hm] at h; exact .inl (newN_hof h)
    | false => rw [hk2 n j hm] at h; exact .inr ⟨rfl, h⟩
  have hmN : ∀ e ∈ N0 ++ N1, mergeN τ (N0 ++ N1) β' β (τ e) = β' e := fun e he => by
    rw [hm1 _ (memb_iff.2 (List.mem_map_of_mem he)), newN_some hinj he]
  have hmc : ∀ n b, mergeN τ (N0 ++ N1) β' β n = some b → (∃ e ∈ N0 ++ N1, τ e = n ∧ β' e = some b) ∨ (memb n ((N0 ++ N1).map τ) = false ∧ β n = some b) := fun n b h => by
    cases hm : memb n ((N0 ++ N1).map τ) with
    | true => rw [hm1 n hm] at h; exact .inl (newN_of h)
    | false => rw [hm2 n hm] at h; exact .inr ⟨rfl, h⟩
  have hσ : ∀ n, memb n ((N0 ++ N1).map τ) = false → n ∉ N0.map σ := fun n h hn => by
    obtain ⟨e, q1, q2⟩ := List.mem_map.1 hn
    have : n ∈ (N0 ++ N1).map τ := by rw [← q2, ← R.same e q1]; exact List.mem_map_of_mem (List.mem_append_left _ q1)
    rw [memb_iff.2 this] at h; cases h
  have hold1 : ∀ b, ownd β' b → w.heap.size ≤ b ∨ ∃ e' ∈ N0, own1 β (σ e') b := fun b h => by
    rcases hmine b h with h1 | h1
    · exact .inl h1
    · obtain ⟨e', h2⟩ := ownd_own1 h1
      exact .inr ⟨e', hc21 e' b h2⟩
  have hold : ∀ e b, β' e = some b → w.heap.size ≤ b ∨ ∃ e' ∈ N0, own1 β (σ e') b := fun e b h => hold1 b (.inl ⟨e, h⟩)
  have holdH : ∀ e j b, β'.hd e j = some b → w.heap.size ≤ b ∨ ∃ e' ∈ N0, own1 β (σ e') b := fun e j b h => hold1 b (.inr ⟨e, j, h⟩)
  -- what is the callee's is none of what the caller keeps
  have hnot : ∀ n b, memb n ((N0 ++ N1).map τ) = false → own1 β n b → ¬ ownd β' b := fun n b hn h1 h2 => by
    rcases hold1 b h2 with h3 | ⟨e', h3, h4⟩
    · have := S.hr.lt1 h1; omega
    · exact hσ n hn (by rw [S.hr.one h1 h4]; exact List.mem_map_of_mem h3)
  have hstay : ∀ e ∈ N0, mv e = false → β' e = β (σ e) := fun e he hm => by
    rw [hst e (allBig_mem B.big he) hm (domIs_spec R.dom e (List.mem_append_left _ he)), hc1 e he]
  have hsame : ∀ b, b < w.heap.size → (∀ e ∈ N0, ¬ own1 β (σ e) b) → w'.heap[b]? = w.heap[b]? := fun b hb hn => F.same b hb (fun h => by
    obtain ⟨e, h⟩ := ownd_own1 h
    obtain ⟨q1, q2⟩ := hc21 e b h
    exact hn e q1 q2)
  let p : Nat → Bool := fun n => memb n (mvd mv σ N0 ++ N1.map τ)
  have T : Tr C.X C.X p β (mergeN τ (N0 ++ N1) β' β) w w' := {
    keep := ⟨F.size, fun b ho hb => hsame b hb (fun e _ => okf_own1 ho _), fun b ho hb => ⟨fun hx => by
      rcases hx with hx | ⟨n, j, hx⟩
      · exact ho.1 (.inl hx)
      · rcases hkc n j b hx with ⟨e, _, _, h3⟩ | ⟨_, h3⟩
        · rcases holdH e j b h3 with h4 | ⟨e', _, h4⟩
          · omega
          · exact okf_own1 ho _ h4
        · exact ho.1 (.inr ⟨n, j, h3⟩), fun n hn => by
      rcases hmc n b hn with ⟨e, _, _, h3⟩ | ⟨_, h3⟩
      · rcases hold e b h3 with h4 | ⟨e', _, h4⟩
        · omega
        · exact okf_own1 ho _ h4
      · exact ho.2 n h3⟩⟩
    name := fun n b hp hb => by
      have hp1 : n ∉ mvd mv σ N0 ++ N1.map τ := fun hh => by
        have : p n = true := memb_iff.2 hh
        rw [hp] at this; cases this
      rw [List.mem_append, not_or] at hp1
      cases hm : memb n ((N0 ++ N1).map τ) with
      | false => rw [hm2 n hm]; exact hb
      | true =>
        obtain ⟨e, q1, q2⟩ := List.mem_map.1 (memb_iff.1 hm)
        rcases List.mem_append.1 q1 with q3 | q3
        · subst q2
          rw [hmN e q1]
          rw [R.same e q3] at hb hp1
          cases hme : mv e with
          | true => exact absurd (mvd_mem q3 hme) hp1.1
          | false => rw [hstay e q3 hme]; exact hb
        · exact absurd (q2 ▸ List.mem_map_of_mem q3) hp1.2
    bsize := fun n b c ty fr _ hb hh => F.bsize b c ty fr hh }
  have hok : (∀ b, b < w'.heap.size → okf Xc β' b → okf C.X (mergeN τ (N0 ++ N1) β' β) b) ∨ sc = true := by
    cases hsc : sc with
    | true => exact .inr rfl
    | false =>
      refine .inl fun b _ ⟨h1, h2⟩ => ⟨fun hx => ?_, fun n hn => ?_⟩
      · rcases hx with hx | ⟨n, j, hx⟩
        · exact h1 (.inl (.inl hx))
        · rcases hkc n j b hx with ⟨e, _, _, h3⟩ | ⟨q1, h3⟩
          · exact h1 (.inr ⟨e, j, h3⟩)
          · exact h1 (.inl (.inr ⟨hsc, n, hσ n q1, .inr ⟨j, h3⟩⟩))
      · rcases hmc n b hn with ⟨e, _, _, h3⟩ | ⟨q1, h3⟩
        · exact h2 e h3
        · exact h1 (.inl (.inr ⟨hsc, n, hσ n q1, .inl h3⟩))
  refine ⟨v, renA τ r, _, mergeN τ (N0 ++ N1) β' β, he, hK, ?_, AR.ren (N := N0 ++ N1) hmN hok r v R.refs (fun h => (R.sc h).1) hr⟩
  have hpid : ∀ n, p n = true → n ∈ mvd mv σ N0 ∨ n ∈ N1.map τ := fun n h => List.mem_append.1 (memb_iff.1 h)
  exact {
    tsize := S.tsize
    df := S.df
    slots := fun t x hx => by
      have := AR.pg T x _ (S2.slots t x hx)
      rcases dropRs_get hx with rfl | ⟨h1, h2⟩
      · rw [AR]; trivial
      · rwa [pg_nrs _ x (fun n hn => by
          rcases List.mem_append.1 hn with h3 | h3
          · exact h2 n h3
          · exact nrS_get (hfree n h3).2.1 h1)] at this
    hr := {
      inj := fun n n' b h1 h2 => by
        rcases hmc n b h1 with ⟨e, q1, q2, q3⟩ | ⟨q1, q2⟩ <;> rcases hmc n' b h2 with ⟨e', p1, p2, p3⟩ | ⟨p1, p2⟩
        · rw [← q2, ← p2, H'.inj e e' b q3 p3]
        · exact absurd (.inl ⟨e, q3⟩) (hnot n' b p1 (.inl p2))
        · exact absurd (.inl ⟨e', p3⟩) (hnot n b q1 (.inl q2))
        · exact S.hr.inj n n' b q2 p2
      lt := fun n b h1 => by
        rcases hmc n b h1 with ⟨e, q1, q2, q3⟩ | ⟨q1, q2⟩
        · exact H'.lt e b q3
        · have := S.hr.lt n b q2; have := F.size; omega
      notX := fun n b h1 hx => by
        rcases hmc n b h1 with ⟨e, q1, q2, q3⟩ | ⟨q1, q2⟩
        · rcases hx with hx | ⟨n', j, hx⟩
          · exact H'.notX e b q3 (.inl (.inl hx))
          · rcases hkc n' j b hx with ⟨e', _, _, h3⟩ | ⟨p1, h3⟩
            · exact H'.notX e b q3 (.inr ⟨e', j, h3⟩)
            · exact hnot n' b p1 (.inr ⟨j, h3⟩) (.inl ⟨e, q3⟩)
        · rcases hx with hx | ⟨n', j, hx⟩
          · exact S.hr.notX n b q2 (.inl hx)
          · rcases hkc n' j b hx with ⟨e', _, _, h3⟩ | ⟨p1, h3⟩
            · exact hnot n b q1 (.inl q2) (.inr ⟨e', j, h3⟩)
            · exact S.hr.notX n b q2 (.inr ⟨n', j, h3⟩)
      hlt := fun n j b h1 => by
        rcases hkc n j b h1 with ⟨e, q1, q2, q3⟩ | ⟨q1, q2⟩
        · exact H'.hlt e j b q3
        · have := S.hr.hlt n j b q2; have := F.size; omega
      hinj := fun n j n' j' b h1 h2 => by
        rcases hkc n j b h1 with ⟨e, q1, q2, q3⟩ | ⟨q1, q2⟩ <;> rcases hkc n' j' b h2 with ⟨e', p1, p2, p3⟩ | ⟨p1, p2⟩
        · rw [← q2, ← p2, H'.hinj e j e' j' b q3 p3]
        · exact absurd (.inr ⟨e, j, q3⟩) (hnot n' b p1 (.inr ⟨j', p2⟩))
        · exact absurd (.inr ⟨e', j', p3⟩) (hnot n b q1 (.inr ⟨j, q2⟩))
        · exact S.hr.hinj n j n' j' b q2 p2
      hX := fun n j b h1 hx => by
        rcases hkc n j b h1 with ⟨e, q1, q2, q3⟩ | ⟨q1, q2⟩
        · exact H'.hX e j b q3 (.inl hx)
        · exact S.hr.hX n j b q2 hx
      own := fun n ob hn => by
        rw [get_append] at hn
        split at hn
        · rename_i y hy
          cases hn
          obtain ⟨e, ob0, q1, q2, q3, _⟩ := renOs_get hy
          have he : e ∈ N0 ++ N1 := domIn_spec R.domIn e (by rw [q1]; rfl)
          subst q2 q3
          rw [hmN e he]
          refine OBR.ren (N := N0 ++ N1) hmN hok (hkN e he) ?_ (fun h => (R.sc h).2 e ob0 q1) (H'.own e ob0 q1)
          exact refsInO_ren (refsInOs_get R.refsO q1)
        · rename_i hy
          have hnm : memb n ((N0 ++ N1).map τ) = false := by
            cases hm : memb n ((N0 ++ N1).map τ) with
            | false => rfl
            | true =>
              obtain ⟨e, q1, q2⟩ := List.mem_map.1 (memb_iff.1 hm)
              have := isSome_renOs (σ := τ) (domIs_spec R.dom e q1)
              rw [q2, hy] at this; cases this
          rw [hm2 n hnm]
          have hns := hσ n hnm
          have := OBR.pg T (b := β n) (fun k hk => hsame k (S.hr.lt n k hk) (fun e he h => hns (by rw [S.hr.one (.inl hk) h]; exact List.mem_map_of_mem he))) (fun j k hk => ⟨by rw [hk2 n j hnm]; exact hk, hsame k (S.hr.hlt n j k hk) (fun e he h => hns (by rw [S.hr.one (.inr ⟨j, hk⟩) h]; exact List.mem_map_of_mem he))⟩) (S2.hr.own n ob hn)
          rwa [pgO_nrs _ ob (fun m hm => by
            rcases List.mem_append.1 hm with h3 | h3
            · exact nrOs_get (goneO_mem B.gone h3) hn
            · exact nrOs_get (dropOs_nr (hfree m h3).2.2) hn)] at this }
    mine := fun b h1 => by
      have key : ownd β' b → C.w0.heap.size ≤ b ∨ ownd C.β0 b := fun h => by
        rcases hold1 b h with h4 | ⟨e', _, h4⟩
        · have := S.fr.size; left; omega
        · exact S.mine b (own1_ownd h4)
      rcases h1 with ⟨n, h1⟩ | ⟨n, j, h1⟩
      · rcases hmc n b h1 with ⟨e, q1, q2, q3⟩ | ⟨q1, q2⟩
        · exact key (.inl ⟨e, q3⟩)
        · exact S.mine b (.inl ⟨n, q2⟩)
      · rcases hkc n j b h1 with ⟨e, q1, q2, q3⟩ | ⟨q1, q2⟩
        · exact key (.inr ⟨e, j, q3⟩)
        · exact S.mine b (.inr ⟨n, j, q2⟩)
    stay := fun n hn hm => by
      cases hmm : memb n ((N0 ++ N1).map τ) with
      | false => rw [hm2 n hmm]; exact S.stay n hn hm
      | true =>
        obtain ⟨e, q1, q2⟩ := List.mem_map.1 (memb_iff.1 hmm)
        subst q2
        rcases List.mem_append.1 q1 with q3 | q3
        · rw [hmN e q1]
          rw [R.same e q3] at hn hm ⊢
          cases hme : mv e with
          | false => rw [hstay e q3 hme]; exact S.stay _ hn hm
          | true =>
            have := mvOK_mem B.mvs q3 hme hn
            rw [← hmv, hm] at this; cases this
        · have := (hfree _ (List.mem_map_of_mem q3)).1; omega
    fr := S.fr.comp F (fun b h => by
      obtain ⟨e, h⟩ := ownd_own1 h
      exact S.mine b (own1_ownd (hc21 e b h).2))
    xlt := S.xlt }
end Go.AM

namespace Go.AM
abbrev int (n : Int) : AV := .d (.int .i64 n)
abbrev bool (b : Bool) : AV := .d (.bool b)
abbrev str (s : List UInt8) : AV := .d (.str s)
/-- 'st'' says no more than 'st'. -/
def Wk (C : Cx) (st st' : St) : Prop := ∀ a w, Sat C st a w → Sat C st' a w
theorem Wk.trans {C : Cx} {a b c : St} (h : Wk C a b) (k : Wk C b c) : Wk C a c := fun x w S => k x w (h x w S)
theorem cx_wk {C : Cx} {x : XCode} {st st' : St} {Kn Kr : Kont} {Ke : List (Nat × Kont)} (hw : Wk C st st') (h : AX C x st' Kn Ke Kr) : AX C x st Kn Ke Kr :=
  fun c hf a w S => h c hf a w (hw a w S)
theorem ax_wk {C : Cx} {q : Bool} {gs : List Gd} {its : List XI} {st st' : St} {K : St → Prop} (hw : Wk C st st') (h : AXI C q gs its st' K) : AXI C q gs its st K :=
  fun ops W R lo i k hf rest a w S G H => h ops W R lo i k hf rest a w (hw a w S) G H
theorem con_of2 {P : Program} {mv : Nat → Bool} {f n : Nat} {code : XCode} {res : List XR} {args : List AV} {h : List (Nat × OB)} {post : AV → List (Nat × OB) → Prop} (hx : fitsF P f ⟨n, code, res⟩ = true) (hn : Nat.ble args.length n = true)
    (hax : ∀ C : Cx, C.P = P → C.mv = mv → AX C code ⟨argS 0 args, h⟩ (RetK res post) [] (RetK res post)) : Con P mv f args h post :=
  con_of ⟨n, code, res⟩ hx hn hax
theorem ax_qe {C : Cx} {q : Bool} {gs : List Gd} {K : St → Prop} {sl : List (Nat × AV)} {own : List (Nat × OB)} {d : Nat} {x : XOp} {its : List XI} {r r' : AV} (hq : QStep C ⟨sl, own⟩ x r) (he : r = r') (h : AXI C q gs its ⟨(d, r') :: sl, own⟩ K) :
    AXI C q gs (.op (some d) x :: its) ⟨sl, own⟩ K := ax_q hq (by rw [he]; exact h)
theorem ax_ee {C : Cx} {gs : List Gd} {K : St → Prop} {st st' st'' : St} {d : Option Nat} {x : XOp} {its : List XI} (he : EStep C st d x st') (hq : st' = st'') (h : AXI C false gs its st'' K) : AXI C false gs (.op d x :: its) st K :=
  ax_e he (by rw [hq]; exact h)
theorem SatB.name {C : Cx} {sl : List (Nat × AV)} {own : List (Nat × OB)} {a : Act} {w : World} {β : Names} (S : SatB C ⟨sl, own⟩ a w β) {n : Nat} (hn : n < 1000) (h1 : nrS n sl = true) (h2 : nrOs n own = true) {sz : Nat} :
    SatB C ⟨sl, (n, .rows sz []) :: own⟩ a w (setN β n none) := by
  have hs : ∀ e, e ≠ n → setN β n none e = β e := fun e he => by rw [setN_nm]; rw [if_neg he]
  have hb : ∀ e b, setN β n none e = some b → β e = some b ∧ e ≠ n := fun e b h => by
    rw [setN_nm] at h
    split at h
    · cases h
    · rename_i he; exact ⟨h, he⟩
  have T : Tr C.X C.X (fun e => Nat.beq n e) β (setN β n none) w w := {
    keep := ⟨Nat.le_refl _, fun _ _ _ => rfl, fun b ⟨p1, p2⟩ _ => ⟨p1, fun e he => p2 e (hb e b he).1⟩⟩
    name := fun e b hp hh => by
      rw [hs e (fun he => by subst he; simp at hp)]; exact hh
    bsize := fun _ _ c ty fr _ _ h => ⟨c, ty, fr, h, rfl⟩ }
  exact {
    tsize := S.tsize
    df := S.df
    slots := fun t x hx => by
      have := AR.pg T x _ (S.slots t x hx)
      rwa [pg_nr n x (nrS_get h1 hx)] at this
    hr := {
      inj := fun e e' b p q => S.hr.inj e e' b (hb e b p).1 (hb e' b q).1
      lt := fun e b p => S.hr.lt e b (hb e b p).1
      notX := fun e b p => S.hr.notX e b (hb e b p).1
      hlt := S.hr.hlt
      hinj := S.hr.hinj
      hX := S.hr.hX
      own := fun e ob he => by
        rw [get_cons] at he
        split at he
        · rename_i h; subst h; cases he
          have : setN β n none n = none := by rw [setN_nm]; rw [if_pos rfl]
          rw [this]
          exact rfl
        · rename_i h
          rw [hs e (fun h' => h h'.symm)]
          have := OBR.pg T (b := β e) (fun k hk => rfl) (fun _ _ hk => ⟨hk, rfl⟩) (S.hr.own e ob he)
          rwa [pgO_nr n ob (nrOs_get h2 he)] at this }
    mine := fun b p => S.mine b (p.imp (fun ⟨e, h⟩ => ⟨e, (hb e b h).1⟩) id)
    stay := fun e he hm => by rw [hs e (by omega)]; exact S.stay e he hm
    fr := S.fr
    xlt := S.xlt }
/-- An empty own slice, out of nothing. -/
theorem wk_virt {C : Cx} {sl : List (Nat × AV)} {own : List (Nat × OB)} (n sz : Nat) (hn : Nat.ble (n + 1) 1000 = true) (h1 : nrS n sl = true) (h2 : nrOs n own = true) : Wk C ⟨sl, own⟩ ⟨sl, (n, .rows sz []) :: own⟩ :=
  fun _ _ ⟨_, S⟩ => ⟨_, S.name (by have := Nat.le_of_ble_eq_true hn; omega) h1 h2⟩
/-- 'zs' at a path, as the empty own slice. -/
def vzAt (n : Nat) : List Nat → AV → Option AV
  | [], .zs sz => some (.osl n sz 0 0)
  | i :: p, .agg cs => match cs[i]? with
    | some x => match vzAt n p x with
      | some y => match setF cs i [y] with
        | some r => some (.agg r)
        | none => none
      | none => none
    | none => none
  | _, _ => none
theorem AL_setF {X : Nat → Prop} {β : Names} {w : World} {cs r : List AV} {i : Nat} {x y : AV} {vs : List Value} (h : setF cs i [y] = some r) (hi : cs[i]? = some x) (hA : AL X β w cs vs) (hy : ∀ v, AR X β w x v → AR X β w y v) : AL X β w r vs := by
  obtain ⟨h1, h2⟩ := setF_eq h
  subst h1
  refine AL_mk (by rw [AL_len hA, setL_length]) fun j z v hj hv => ?_
  rw [setL, setL, List.getElem?_set] at hj
  split at hj
  · rename_i he; subst he
    split at hj
    · cases hj
      obtain ⟨u, h3, h4⟩ := AL_get hA i x hi
      rw [hv] at h3; cases h3
      exact hy _ h4
    · cases hj
  · obtain ⟨u, h3, h4⟩ := AL_get hA j z hj
    rw [hv] at h3; cases h3
    exact h4
theorem vzAt_AR {X : Nat → Prop} {β : Names} {w : World} {n : Nat} : ∀ {p : List Nat} {x y : AV}, vzAt n p x = some y → ∀ {v : Value}, AR X β w x v → AR X β w y v
  | [], x, y, h, v, hA => by
    cases x with
    | zs sz =>
      simp only [vzAt, Option.some.injEq] at h
      subst h
      simp only [AR] at hA ⊢
      obtain ⟨a, rfl⟩ := hA
      exact ⟨a, 0, rfl, Nat.le_refl _, .inl rfl⟩
    | _ => simp [vzAt] at h
  | i :: p, x, y, h, v, hA => by
    cases x with
    | agg cs =>
      simp only [vzAt] at h
      split at h
      · rename_i x' hx'
        split at h
        · rename_i y' hy'
          split at h
          · rename_i r hr
            cases h
            rw [AR] at hA ⊢
            obtain ⟨vs, rfl, h3⟩ := hA
            exact ⟨vs, rfl, AL_setF hr hx' h3 (fun v hv => vzAt_AR hy' hv)⟩
          · cases h
        · cases h
      · cases h
    | _ => simp [vzAt] at h
theorem SatB.slot {C : Cx} {sl : List (Nat × AV)} {own : List (Nat × OB)} {a : Act} {w : World} {β : Names} (S : SatB C ⟨sl, own⟩ a w β) {t : Nat} {x y : AV} (hx : get sl t = some x) (h : ∀ v, AR C.X β w x v → AR C.X β w y v) :
    SatB C ⟨(t, y) :: sl, own⟩ a w β where
  tsize := S.tsize
  df := S.df
  slots := fun k z hz => by
    rw [get_cons] at hz
    split at hz
    · rename_i hk; subst hk; cases hz; exact h _ (S.slots _ x hx)
    · exact S.slots k z hz
  hr := S.hr
  mine := S.mine
  stay := S.stay
  fr := S.fr
  xlt := S.xlt
theorem SatB.boxed {C : Cx} {sl : List (Nat × AV)} {own : List (Nat × OB)} {a : Act} {w : World} {β : Names} (S : SatB C ⟨sl, own⟩ a w β) {e : Nat} {cs r : List AV} (hx : get own e = some (.box cs)) (h : ∀ vs, AL C.X β w cs vs → AL C.X β w r vs) :
    SatB C ⟨sl, (e, .box r) :: own⟩ a w β where
  tsize := S.tsize
  df := S.df
  slots := S.slots
  hr := ⟨S.hr.inj, S.hr.lt, S.hr.notX, S.hr.hlt, S.hr.hinj, S.hr.hX, fun k ob hk => by
    rw [get_cons] at hk
    split at hk
    · rename_i he; subst he; cases hk
      have := S.hr.own _ _ hx
      revert this
      cases β e with
      | none => exact fun h => h
      | some b => rintro ⟨c, ty, fr, h1, h2, h3⟩; exact ⟨c, ty, fr, h1, h2, h _ h3⟩
    · exact S.hr.own k ob hk⟩
  mine := S.mine
  stay := S.stay
  fr := S.fr
  xlt := S.xlt
theorem wk_zs {C : Cx} {sl : List (Nat × AV)} {own : List (Nat × OB)} (t n : Nat) (p : List Nat) {x y : AV} (hx : get sl t = some x) (hy : vzAt n p x = some y) : Wk C ⟨sl, own⟩ ⟨(t, y) :: sl, own⟩ :=
  fun _ _ ⟨_, S⟩ => ⟨_, S.slot hx (fun _ h => vzAt_AR hy h)⟩
theorem wk_zsb {C : Cx} {sl : List (Nat × AV)} {own : List (Nat × OB)} (e n i : Nat) {cs r : List AV} {sz : Nat} (hx : get own e = some (.box cs)) (hi : cs[i]? = some (.zs sz)) (hy : setF cs i [.osl n sz 0 0] = some r) : Wk C ⟨sl, own⟩ ⟨sl, (e, .box r) :: own⟩ :=
  fun _ _ ⟨_, S⟩ => ⟨_, S.boxed hx (fun _ h => AL_setF hy hi h (fun _ hv => vzAt_AR (n := n) (p := []) rfl hv))⟩
mutual
inductive Frz (e sz : Nat) (rs : List (List D)) : AV → AV → Prop
  | whole {len : Nat} (h : len = rs.length) : Frz e sz rs (.osl e sz 0 len) (.d (.sl sz rs))
  | part {s len : Nat} {rs' : List (List D)} (h : s + len ≤ rs.length) (hr : rs' = (rs.drop s).take len) : Frz e sz rs (.osl e sz s len) (.d (.sl sz rs'))
  | row {i o : Nat} {r : List D} (h : rs[i]? = some r) : Frz e sz rs (.rptr e sz i o) (.d (.ip (r.drop o)))
  | same {x : AV} (h : nrA e x = true) : Frz e sz rs x x
  | agg {xs ys : List AV} (h : FrzL e sz rs xs ys) : Frz e sz rs (.agg xs) (.agg ys)
  | tup {xs ys : List AV} (h : FrzL e sz rs xs ys) : Frz e sz rs (.tup xs) (.tup ys)
inductive FrzL (e sz : Nat) (rs : List (List D)) : List AV → List AV → Prop
  | nil : FrzL e sz rs [] []
  | cons {x y : AV} {xs ys : List AV} (h : Frz e sz rs x y) (hs : FrzL e sz rs xs ys) : FrzL e sz rs (x :: xs) (y :: ys)
end
/-- A name, and what is hidden behind it, are let go. -/
def delN (β : Names) (e : Nat) : Names := ⟨fun k => if k = e then none else β k, fun k j => if k = e then none else β.hd k j⟩
theorem delN_nm (β : Names) (e k : Nat) : delN β e k = if k = e then none else β k := rfl
theorem delN_hd (β : Names) (e k j : Nat) : (delN β e).hd k j = if k = e then none else β.hd k j := rfl
theorem delN_of {β : Names} {e k b : Nat} (h : delN β e k = some b) : β k = some b ∧ k ≠ e := by
  rw [delN_nm] at h
  split at h
  · cases h
  · rename_i hne; exact ⟨h, hne⟩
theorem delN_hof {β : Names} {e k j b : Nat} (h : (delN β e).hd k j = some b) : β.hd k j = some b ∧ k ≠ e := by
  rw [delN_hd] at h
  split at h
  · cases h
  · rename_i hne; exact ⟨h, hne⟩
theorem delN_XH {X : Nat → Prop} {β : Names} {e b : Nat} (h : XH X (delN β e) b) : XH X β b := by
  rcases h with h | ⟨k, j, h⟩
  · exact .inl h
  · exact .inr ⟨k, j, (delN_hof h).1⟩
theorem delN_ownd {β : Names} {e b : Nat} (h : ownd (delN β e) b) : ownd β b := by
  rcases h with ⟨k, h⟩ | ⟨k, j, h⟩
  · exact .inl ⟨k, (delN_of h).1⟩
  · exact .inr ⟨k, j, (delN_hof h).1⟩
theorem delN_ok {X : Nat → Prop} {β : Names} {e b : Nat} (h : okf X β b) : okf X (delN β e) b := ⟨fun hx => h.1 (delN_XH hx), fun k hk => h.2 k (delN_of hk).1⟩
/-- .. so that they are nobody's. -/
theorem delN_free {X : Nat → Prop} {β : Names} {own : List (Nat × OB)} {w : World} (H : HR X β own w) {e b : Nat} (h : own1 β e b) : okf X (delN β e) b := by
  refine ⟨fun hx => ?_, fun k hk => ?_⟩
  · rcases hx with hx | ⟨k, j, hx⟩
    · rcases h with h | ⟨j, h⟩
      · exact H.notX e b h (.inl hx)
      · exact H.hX e j b h hx
    · obtain ⟨q1, q2⟩ := delN_hof hx
      exact q2 (H.one (.inr ⟨j, q1⟩) h)
  · obtain ⟨q1, q2⟩ := delN_of hk
    exact q2 (H.one (.inl q1) h)
theorem Tr.unname (X : Nat → Prop) (β : Names) (w : World) (e : Nat) : Tr X X (Nat.beq e) β (delN β e) w w := {
    keep := ⟨Nat.le_refl _, fun _ _ _ => rfl, fun b hb _ => delN_ok hb⟩
    name := fun k b hp hh => by
      rw [delN_nm]
      rw [if_neg (fun he => by subst he; simp at hp)]; exact hh
    bsize := fun _ _ c ty fr _ _ h => ⟨c, ty, fr, h, rfl⟩ }
section frz
variable {X : Nat → Prop} {β : Names} {w : World} {own : List (Nat × OB)} {e sz : Nat} {rs : List (List D)}
mutual
theorem Frz.ar (H : HR X β own w) (he : get own e = some (.rows sz rs)) : ∀ {x y : AV}, Frz e sz rs x y → ∀ {v : Value}, AR X β w x v → AR X (delN β e) w y v
  | _, _, .whole h, v, hA => by
    have hok : ∀ b, okf X β b → okf X (delN β e) b := fun b hb => delN_ok hb
    have hH : HR X β [(e, OB.rows sz rs)] w := ⟨H.inj, H.lt, H.notX, H.hlt, H.hinj, H.hX, fun k ob hk => by
      rw [get_cons] at hk
      split at hk
      · rename_i hke; subst hke; cases hk; exact H.own _ _ he
      · simp [get] at hk⟩
    have hke : ∀ k, (get [(e, OB.rows sz rs)] k).isSome = true → k = e := fun k hk => by
      rw [get_cons] at hk
      split at hk
      · rename_i h; exact h.symm
      · simp [get] at hk
    have hk2 : ∀ k b, (get [(e, OB.rows sz rs)] k).isSome = true → β k = some b → okf X (delN β e) b := fun k b hk hb => by
      rw [hke k hk] at hb; exact delN_free H (.inl hb)
    have hk3 : ∀ k j b, (get [(e, OB.rows sz rs)] k).isSome = true → β.hd k j = some b → okf X (delN β e) b := fun k j b hk hb => by
      rw [hke k hk] at hb; exact delN_free H (.inr ⟨j, hb⟩)
    have h2 := osl_lend (own := [(e, OB.rows sz rs)]) hH hok hk2 (get_cons_self _ _ _) (by omega) hA
    rw [AR]
    subst h
    simpa using h2
  | _, _, .part h1 hr, v, hA => by
    have hok : ∀ b, okf X β b → okf X (delN β e) b := fun b hb => delN_ok hb
    have hH : HR X β [(e, OB.rows sz rs)] w := ⟨H.inj, H.lt, H.notX, H.hlt, H.hinj, H.hX, fun k ob hk => by
      rw [get_cons] at hk
      split at hk
      · rename_i hke; subst hke; cases hk; exact H.own _ _ he
      · simp [get] at hk⟩
    have hke : ∀ k, (get [(e, OB.rows sz rs)] k).isSome = true → k = e := fun k hk => by
      rw [get_cons] at hk
      split at hk
      · rename_i h; exact h.symm
      · simp [get] at hk
    have hk2 : ∀ k b, (get [(e, OB.rows sz rs)] k).isSome = true → β k = some b → okf X (delN β e) b := fun k b hk hb => by
      rw [hke k hk] at hb; exact delN_free H (.inl hb)
    have hk3 : ∀ k j b, (get [(e, OB.rows sz rs)] k).isSome = true → β.hd k j = some b → okf X (delN β e) b := fun k j b hk hb => by
      rw [hke k hk] at hb; exact delN_free H (.inr ⟨j, hb⟩)
    have h2 := osl_lend (own := [(e, OB.rows sz rs)]) hH hok hk2 (get_cons_self _ _ _) h1 hA
    rw [AR]
    subst hr
    exact h2
  | _, _, .row h1, v, hA => by
    have hok : ∀ b, okf X β b → okf X (delN β e) b := fun b hb => delN_ok hb
    have hH : HR X β [(e, OB.rows sz rs)] w := ⟨H.inj, H.lt, H.notX, H.hlt, H.hinj, H.hX, fun k ob hk => by
      rw [get_cons] at hk
      split at hk
      · rename_i hke; subst hke; cases hk; exact H.own _ _ he
      · simp [get] at hk⟩
    have hke : ∀ k, (get [(e, OB.rows sz rs)] k).isSome = true → k = e := fun k hk => by
      rw [get_cons] at hk
      split at hk
      · rename_i h; exact h.symm
      · simp [get] at hk
    have hk2 : ∀ k b, (get [(e, OB.rows sz rs)] k).isSome = true → β k = some b → okf X (delN β e) b := fun k b hk hb => by
      rw [hke k hk] at hb; exact delN_free H (.inl hb)
    have hk3 : ∀ k j b, (get [(e, OB.rows sz rs)] k).isSome = true → β.hd k j = some b → okf X (delN β e) b := fun k j b hk hb => by
      rw [hke k hk] at hb; exact delN_free H (.inr ⟨j, hb⟩)
    rw [AR]
    exact Lend.dr (own := [(e, OB.rows sz rs)]) hH hok hk2 hk3 (.rptr (get_cons_self _ _ _) h1) hA
  | _, _, .same h, v, hA => by
    have := AR.pg (Tr.unname X β w e) _ _ hA
    rwa [pg_nr e _ h] at this
  | _, _, .agg h, v, hA => by
    rw [AR] at hA ⊢
    obtain ⟨vs, rfl, h2⟩ := hA
    exact ⟨vs, rfl, FrzL.al H he h h2⟩
  | _, _, .tup h, v, hA => by
    rw [AR] at hA ⊢
    obtain ⟨vs, rfl, h2⟩ := hA
    exact ⟨vs, rfl, FrzL.al H he h h2⟩
theorem FrzL.al (H : HR X β own w) (he : get own e = some (.rows sz rs)) : ∀ {xs ys : List AV}, FrzL e sz rs xs ys → ∀ {vs : List Value}, AL X β w xs vs → AL X (delN β e) w ys vs
  | _, _, .nil, vs, hA => by rw [AL] at hA ⊢; exact hA
  | _, _, .cons h1 h2, vs, hA => by
    rw [AL] at hA ⊢
    obtain ⟨v, r, rfl, h3, h4⟩ := hA
    exact ⟨v, r, rfl, Frz.ar H he h1 h3, FrzL.al H he h2 h4⟩
end
end frz
theorem wk_frz {C : Cx} {sl : List (Nat × AV)} {own : List (Nat × OB)} (t e : Nat) {sz : Nat} {rs : List (List D)} {x y : AV} (hx : get sl t = some x) (he : get own e = some (.rows sz rs)) (hf : Frz e sz rs x y) (hn : Nat.ble (e + 1) 1000 = true) :
    Wk C ⟨sl, own⟩ ⟨(t, y) :: dropR e sl, dropO e (outO [e] own)⟩ := by
  rintro a w ⟨β, S⟩
  have hn := Nat.le_of_ble_eq_true hn
  have T := Tr.unname C.X β w e
  have hs : ∀ k, k ≠ e → delN β e k = β k := fun k he => by rw [delN_nm]; rw [if_neg he]
  have hb : ∀ k b, delN β e k = some b → β k = some b ∧ k ≠ e := fun k b h => by
    exact delN_of h
  refine ⟨delN β e, ?_⟩
  exact {
    tsize := S.tsize
    df := S.df
    slots := fun k z hz => by
      rw [get_cons] at hz
      split at hz
      · rename_i hk; subst hk; cases hz
        exact hf.ar S.hr he (S.slots _ x hx)
      · rcases dropR_get e sl k z hz with rfl | h2
        · rw [AR]; trivial
        · rw [get_pgS, Option.map_eq_some_iff] at h2
          obtain ⟨z', h3, rfl⟩ := h2
          exact AR.pg T z' _ (S.slots k z' h3)
    hr := {
      inj := fun k k' b p q => S.hr.inj k k' b (hb k b p).1 (hb k' b q).1
      lt := fun k b p => S.hr.lt k b (hb k b p).1
      notX := fun k b p hx => S.hr.notX k b (hb k b p).1 (delN_XH hx)
      hlt := fun k j b p => S.hr.hlt k j b (delN_hof p).1
      hinj := fun k j k' j' b p q => S.hr.hinj k j k' j' b (delN_hof p).1 (delN_hof q).1
      hX := fun k j b p => S.hr.hX k j b (delN_hof p).1
      own := fun k ob hk => by
        rw [dropO_eq, get_pgOs, Option.map_eq_some_iff] at hk
        obtain ⟨q, hq, rfl⟩ := hk
        obtain ⟨h1, h2⟩ := outO_get hq
        rw [hs k (fun h => h1 (by rw [h]; exact List.mem_cons_self))]
        exact OBR.pg T (fun _ _ => rfl) (fun j b hk => ⟨by rw [delN_hd, if_neg (fun h => h1 (by rw [h]; exact List.mem_cons_self))]; exact hk, rfl⟩) (S.hr.own k q h2) }
    mine := fun b p => S.mine b (delN_ownd p)
    stay := fun k hk hm => by rw [hs k (by omega)]; exact S.stay k hk hm
    fr := S.fr
    xlt := S.xlt }
section
variable {C : Cx} {st : St} {sl : List (Nat × AV)} {own : List (Nat × OB)}
theorem q_ix {sz : Nat} {x i : XA} {k : IntKind} {n : Nat} {rows : List (List D)} {row : List D} (hx : evA st.sl x = some (.d (.sl sz rows))) (hi : evA st.sl i = some (.d (.int k (n : Int))))
    (hr : rows[n]? = some row) : QStep C st (.iadr sz x i) (.d (.ip row)) := q_iadr hx hi (by omega) (by simpa using hr)
theorem q_ixo {sz : Nat} {x i : XA} {k : IntKind} {n : Nat} {e len : Nat} (hx : evA st.sl x = some (.osl e sz 0 len)) (hi : evA st.sl i = some (.d (.int k (n : Int))))
    (hr : n < len) : QStep C st (.iadr sz x i) (.rptr e sz n 0) := by
  have := q_iadr_osl (C := C) hx hi (by omega) (by omega)
  simpa using this
theorem q_ldN {x : XA} {e o n : Nat} {cells r : List AV} (hx : evA st.sl x = some (.ptr e o)) (he : get st.own e = some (.box cells)) (hr : tkK (n + 1) (cells.drop o) = some r) :
    QStep C st (.loadN (n + 1) x) (.agg r) := by
  obtain ⟨h1, h2⟩ := tkK_eq hr
  rw [h1]
  refine q_loadN_ptr hx he ?_
  simp at h2
  omega
theorem e_st {n e o : Nat} {x y : XA} {v : AV} {cells cs r : List AV} (hx : evA sl x = some (.ptr e o)) (he : get own e = some (.box cells)) (hy : evA sl y = some v) (hc : cellsA v = some cs)
    (h1 : onesA cs = true) (hn : Nat.beq cs.length n = true) (hl : setF cells o cs = some r) : EStep C ⟨sl, own⟩ none (.store n x y) ⟨sl, (e, .box r) :: own⟩ := by
  obtain ⟨h2, h3⟩ := setF_eq hl
  rw [h2]
  have := Nat.eq_of_beq_eq_true hn
  exact e_store_ptr hx he hy hc h1 this (by omega)
theorem e_str {n e sz i o : Nat} {x y : XA} {v : AV} {rs rs' : List (List D)} {row q : List D} {cs : List AV} {ds : List D} (hx : evA sl x = some (.rptr e sz i o)) (he : get own e = some (.rows sz rs))
    (hy : evA sl y = some v) (hc : cellsA v = some cs) (hds : toDs cs = some ds) (hn : Nat.beq ds.length n = true) (hr : rs[i]? = some row) (hl : Nat.ble (o + n) sz = true) (hrow : setF row o ds = some q) (hset : rs.set i q = rs') :
    EStep C ⟨sl, own⟩ none (.store n x y) ⟨sl, (e, .rows sz rs') :: own⟩ := by
  have := e_store_rptr (C := C) hx he hy hc hds (Nat.eq_of_beq_eq_true hn) hr (Nat.le_of_ble_eq_true hl)
  rwa [← (setF_eq hrow).1, hset] at this
theorem e_appn {d sz bytes e len n' : Nat} {zs : List K} {x y : XA} {v : AV} {rs rows rs' : List (List D)} (hx : evA sl x = some (.osl e sz 0 len)) (he : get own e = some (.rows sz rs)) (hlen : len ≤ rs.length)
    (hy : evA sl y = some v) (hsrc : SrcOK C ⟨sl, own⟩ sz v rows) (hm : e < 1000 ∨ C.mv e = true) (hb : (2 * (len + rows.length) + 256) * bytes ≤ 2 ^ 48) (hn : len + rows.length = n') (hrs : rs.take len ++ rows = rs') :
    EStep C ⟨sl, own⟩ (some d) (.app sz bytes zs x y) ⟨(d, .osl e sz 0 n') :: dropR e sl, (e, .rows sz rs') :: dropO e own⟩ := by
  have := e_app_osl (d := d) (bytes := bytes) (zs := zs) hx he hlen hy hsrc hm hb
  rwa [hn, hrs] at this
end
mutual
def plain : AV → Bool
  | .d _ => true
  | .zs _ => true
  | .raw _ => true
  | .agg cs => plainL cs
  | .fn _ cs => plainL cs
  | _ => false
def plainL : List AV → Bool
  | [] => true
  | x :: xs => plain x && plainL xs
end
mutual
theorem la_id {own : List (Nat × OB)} : ∀ (x : AV), plain x = true → LA own x x
  | .d x, _ => .d x
  | .zs sz, _ => .zs sz
  | .raw v, _ => .raw v
  | .agg cs, h => .agg (lal_id cs (by rwa [plain] at h))
  | .fn f cs, h => .fn (lal_id cs (by rwa [plain] at h))
  | .ptr e o, h => by simp [plain] at h
  | .rptr e sz i o, h => by simp [plain] at h
  | .osl e sz s len, h => by simp [plain] at h
  | .oslc e sz s len cap, h => by simp [plain] at h
  | .tup cs, h => by simp [plain] at h
  | .dead, h => by simp [plain] at h
theorem lal_id {own : List (Nat × OB)} : ∀ (xs : List AV), plainL xs = true → LAL own xs xs
  | [], _ => .nil
  | x :: xs, h => by
    rw [plainL, Bool.and_eq_true] at h
    exact .cons (la_id x h.1) (lal_id xs h.2)
end
theorem dT {p : Prop} [Decidable p] (h : decide p = true) : p := of_decide_eq_true h
theorem dF {p : Prop} [Decidable p] (h : decide p = false) : ¬p := of_decide_eq_false h
theorem nT {p : Prop} [Decidable p] (h : (!decide p) = true) : ¬p := by simpa using h
theorem nF {p : Prop} [Decidable p] (h : (!decide p) = false) : p := by simpa using h
theorem bT {b : Bool} (h : (!b) = true) : b = false := by simpa using h
theorem bF {b : Bool} (h : (!b) = false) : b = true := by simpa using h
theorem mapAt {α β : Type} {f : α → β} {xs : List α} {k : Nat} (h : k < xs.length) : (xs.map f)[k]? = some (f xs[k]) := by simp [h]
theorem wr_ok {n : Int} (h1 : -9223372036854775808 ≤ n) (h2 : n ≤ 9223372036854775807) : wr .i64 n = n := by
  unfold wr; simp [IntKind.wrap, IntKind.bits, IntKind.signed]; omega
theorem wi {n : Int} (h1 : -9223372036854775808 ≤ n) (h2 : n ≤ 9223372036854775807) : AV.d (.int .i64 (wr .i64 n)) = .d (.int .i64 n) := by rw [wr_ok h1 h2]
end Go.AM

namespace Go.AM
def idiv (op : BinOp) (k : IntKind) (a b : Int) : Option D :=
  match op with
  | .quo => some (.int k (wr k (a.tdiv b)))
  | .rem => some (.int k (a.tmod b))
  | _ => none
def ishf (op : BinOp) (k : IntKind) (a b : Int) : Option D :=
  match op with
  | .shl => some (.int k (wr k (a * 2 ^ (min b.toNat k.bits))))
  | .shr => some (.int k (a.fdiv (2 ^ (min b.toNat k.bits))))
  | _ => none
theorem q_idiv {C : Cx} {st : St} {op : BinOp} {x y : XA} {k : IntKind} {a b : Int} {r : D} (hx : evA st.sl x = some (.d (.int k a))) (hy : evA st.sl y = some (.d (.int k b))) (hr : idiv op k a b = some r) (h0 : b ≠ 0) :
    QStep C st (.bin op x y) (.d r) := by
  intro o hf ac w β S
  simp only [fits] at hf
  split at hf
  · rename_i op' t u v t' ho
    simp only [Bool.and_eq_true, decide_eq_true_eq] at hf
    obtain ⟨⟨rfl, h1⟩, h2⟩ := hf
    have h1 := AR_of_fitA S h1 hx
    have h2 := AR_of_fitA S h2 hy
    rw [AR, DR] at h1 h2
    cases op <;> simp only [idiv] at hr <;> cases hr
    all_goals
      refine ⟨_, by rw [AR, DR], fun w' _ => ?_⟩
      simp [execOp, ho, h1, h2, eqGuard, binOp, Op.intDiv, wr, h0]
  · cases hf
theorem q_ishf {C : Cx} {st : St} {op : BinOp} {x y : XA} {k k' : IntKind} {a b : Int} {r : D} (hx : evA st.sl x = some (.d (.int k a))) (hy : evA st.sl y = some (.d (.int k' b))) (hr : ishf op k a b = some r) (h0 : 0 ≤ b) :
    QStep C st (.bin op x y) (.d r) := by
  intro o hf ac w β S
  simp only [fits] at hf
  split at hf
  · rename_i op' t u v t' ho
    simp only [Bool.and_eq_true, decide_eq_true_eq] at hf
    obtain ⟨⟨rfl, h1⟩, h2⟩ := hf
    have h1 := AR_of_fitA S h1 hx
    have h2 := AR_of_fitA S h2 hy
    rw [AR, DR] at h1 h2
    have h0' : ¬ b < 0 := by omega
    cases op <;> simp only [ishf] at hr <;> cases hr
    all_goals
      refine ⟨_, by rw [AR, DR], fun w' _ => ?_⟩
      simp [execOp, ho, h1, h2, eqGuard, binOp, Op.shift, wr, h0']
  · cases hf
end Go.AM

namespace Go.AM
theorem membN_iff : ∀ {x : Nat} {l : List Nat}, membN x l = true ↔ x ∈ l
  | x, [] => by simp [membN]
  | x, y :: ys => by
    rw [membN]
    by_cases h : x = y
    · subst h; simp
    · rw [beq_ne h, cond_false, membN_iff]; simp [h]
structure Dl where
  d : Nat
  r : AV
  h : List (Nat × OB)
def pickS (L : Nat → Bool) : Nat → List Dl → List (Nat × AV)
  | _, [] => []
  | i, x :: xs => bif L i then (x.d, x.r) :: pickS L (i + 1) xs else pickS L (i + 1) xs
def pickH (L : Nat → Bool) : Nat → List Dl → List (Nat × OB)
  | _, [] => []
  | i, x :: xs => bif L i then x.h ++ pickH L (i + 1) xs else pickH L (i + 1) xs
theorem get_app {α : Type} : ∀ (l l' : List (Nat × α)) (k : Nat) (x : α), get (l ++ l') k = some x → get l k = some x ∨ (get l k = none ∧ get l' k = some x)
  | l, l', k, x, h => by
    rw [get_append] at h
    split at h
    · rename_i y hy; cases h; exact .inl hy
    · rename_i hy; exact .inr ⟨hy, h⟩
theorem pickS_of {L : Nat → Bool} {sl : List (Nat × AV)} : ∀ {acc : List Dl} {i t : Nat} {y : AV}, get (pickS L i acc ++ sl) t = some y → (∃ j x, acc[j]? = some x ∧ L (i + j) = true ∧ x.d = t ∧ x.r = y) ∨ get sl t = some y
  | [], i, t, y, h => .inr h
  | x :: xs, i, t, y, h => by
    rw [pickS] at h
    cases hL : L i with
    | true =>
      rw [hL, cond_true, List.cons_append, get_cons] at h
      split at h
      · rename_i he; cases h; exact .inl ⟨0, x, rfl, hL, he, rfl⟩
      · rcases pickS_of h with ⟨j, z, h1, h2, h3, h4⟩ | h1
        · exact .inl ⟨j + 1, z, by simpa using h1, by rw [show i + (j + 1) = i + 1 + j from by omega]; exact h2, h3, h4⟩
        · exact .inr h1
    | false =>
      rw [hL, cond_false] at h
      rcases pickS_of h with ⟨j, z, h1, h2, h3, h4⟩ | h1
      · exact .inl ⟨j + 1, z, by simpa using h1, by rw [show i + (j + 1) = i + 1 + j from by omega]; exact h2, h3, h4⟩
      · exact .inr h1
theorem pickS_mk {L : Nat → Bool} {sl : List (Nat × AV)} : ∀ {acc : List Dl} {i t : Nat} {y : AV}, distinct (acc.map Dl.d) = true → frS (acc.map Dl.d) sl = true →
    ((∃ j x, acc[j]? = some x ∧ L (i + j) = true ∧ x.d = t ∧ x.r = y) ∨ get sl t = some y) → get (pickS L i acc ++ sl) t = some y
  | [], i, t, y, _, _, h => by
    rcases h with ⟨j, x, h, _⟩ | h
    · simp at h
    · exact h
  | x :: xs, i, t, y, hd, hf, h => by
    simp only [List.map_cons, distinct, Bool.and_eq_true, Bool.not_eq_true'] at hd
    have hf' : frS (xs.map Dl.d) sl = true := by
      simp only [List.map_cons, frS, Bool.and_eq_true] at hf; exact hf.2
    have hx : x.d ∉ xs.map Dl.d := fun hm => by rw [memb_iff.2 hm] at hd; cases hd.1
    have key : ((∃ j x, xs[j]? = some x ∧ L (i + 1 + j) = true ∧ x.d = t ∧ x.r = y) ∨ get sl t = some y) → get (pickS L (i + 1) xs ++ sl) t = some y := pickS_mk hd.2 hf'
    have hne : ((∃ j x, xs[j]? = some x ∧ L (i + 1 + j) = true ∧ x.d = t ∧ x.r = y) ∨ get sl t = some y) → x.d ≠ t := by
      rintro (⟨j, z, h1, _, h3, _⟩ | h1) he
      · exact hx (by rw [he, ← h3]; exact List.mem_map_of_mem (List.mem_of_getElem? h1))
      · rw [← he, frS_mem hf x.d (by simp)] at h1; cases h1
    rw [pickS]
    rcases h with ⟨j, z, h1, h2, h3, h4⟩ | h1
    · cases j with
      | zero =>
        simp only [List.getElem?_cons_zero, Option.some.injEq] at h1
        subst h1
        rw [Nat.add_zero] at h2
        rw [h2, cond_true, List.cons_append, get_cons, if_pos h3, h4]
      | succ j =>
        have hh : ((∃ j x, xs[j]? = some x ∧ L (i + 1 + j) = true ∧ x.d = t ∧ x.r = y) ∨ get sl t = some y) := .inl ⟨j, z, by simpa using h1, by rw [show i + 1 + j = i + (j + 1) from by omega]; exact h2, h3, h4⟩
        cases L i with
        | true => rw [cond_true, List.cons_append, get_cons, if_neg (hne hh)]; exact key hh
        | false => rw [cond_false]; exact key hh
    · cases L i with
      | true => rw [cond_true, List.cons_append, get_cons, if_neg (hne (.inr h1))]; exact key (.inr h1)
      | false => rw [cond_false]; exact key (.inr h1)
theorem pickH_of {L : Nat → Bool} {own : List (Nat × OB)} : ∀ {acc : List Dl} {i e : Nat} {ob : OB}, get (pickH L i acc ++ own) e = some ob → (∃ j x, acc[j]? = some x ∧ L (i + j) = true ∧ get x.h e = some ob) ∨ get own e = some ob
  | [], i, t, y, h => .inr h
  | x :: xs, i, t, y, h => by
    rw [pickH] at h
    have key : get (pickH L (i + 1) xs ++ own) t = some y → (∃ j z, (x :: xs)[j]? = some z ∧ L (i + j) = true ∧ get z.h t = some y) ∨ get own t = some y := fun h => by
      rcases pickH_of h with ⟨j, z, h1, h2, h3⟩ | h1
      · exact .inl ⟨j + 1, z, by simpa using h1, by rw [show i + (j + 1) = i + 1 + j from by omega]; exact h2, h3⟩
      · exact .inr h1
    cases hL : L i with
    | true =>
      rw [hL, cond_true, List.append_assoc] at h
      rcases get_app _ _ _ _ h with h1 | ⟨_, h1⟩
      · exact .inl ⟨0, x, rfl, hL, h1⟩
      · exact key h1
    | false => rw [hL, cond_false] at h; exact key h
def allNs (acc : List Dl) : List Nat := acc.flatMap fun x => x.h.map Prod.fst
def noneIn (own : List (Nat × OB)) : List Nat → Bool
  | [] => true
  | n :: ns => (match get own n with | some _ => false | none => true) && noneIn own ns
theorem noneIn_mem {own : List (Nat × OB)} : ∀ {ns : List Nat} {n : Nat}, noneIn own ns = true → n ∈ ns → get own n = none
  | m :: ns, n, h, hn => by
    simp only [noneIn, Bool.and_eq_true] at h
    rcases List.mem_cons.1 hn with rfl | hn
    · have := h.1
      split at this
      · cases this
      · assumption
    · exact noneIn_mem h.2 hn
theorem get_mem_fst {α : Type} : ∀ {l : List (Nat × α)} {k : Nat} {x : α}, get l k = some x → k ∈ l.map Prod.fst
  | (j, y) :: r, k, x, h => by
    rw [get_cons] at h
    split at h
    · rename_i he; simp [he]
    · exact List.mem_cons_of_mem _ (get_mem_fst h)
theorem distinct_append : ∀ {a b : List Nat}, distinct (a ++ b) = true → distinct a = true ∧ distinct b = true ∧ ∀ x ∈ a, x ∉ b
  | [], b, h => ⟨rfl, h, fun x hx => by cases hx⟩
  | y :: a, b, h => by
    simp only [List.cons_append, distinct, Bool.and_eq_true, Bool.not_eq_true'] at h
    obtain ⟨h1, h2⟩ := h
    obtain ⟨h3, h4, h5⟩ := distinct_append h2
    have hy : y ∉ a ++ b := fun hm => by rw [memb_iff.2 hm] at h1; cases h1
    rw [List.mem_append, not_or] at hy
    refine ⟨?_, h4, fun x hx => ?_⟩
    · simp only [distinct, Bool.and_eq_true, Bool.not_eq_true']
      refine ⟨?_, h3⟩
      cases hm : memb y a with
      | false => rfl
      | true => exact absurd (memb_iff.1 hm) hy.1
    · rcases List.mem_cons.1 hx with rfl | hx
      · exact hy.2
      · exact h5 x hx
theorem pickH_mk {L : Nat → Bool} {own : List (Nat × OB)} : ∀ {acc : List Dl} {i e : Nat} {ob : OB}, distinct (allNs acc) = true → noneIn own (allNs acc) = true →
    ((∃ j x, acc[j]? = some x ∧ L (i + j) = true ∧ get x.h e = some ob) ∨ get own e = some ob) → get (pickH L i acc ++ own) e = some ob
  | [], i, t, y, _, _, h => by
    rcases h with ⟨j, x, h, _⟩ | h
    · simp at h
    · exact h
  | x :: xs, i, t, y, hd, hf, h => by
    have hd' := hd
    rw [allNs, List.flatMap_cons] at hd'
    obtain ⟨d1, d2, d3⟩ := distinct_append hd'
    have hf' : noneIn own (allNs xs) = true := by
      have key : ∀ (a b : List Nat), noneIn own (a ++ b) = true → noneIn own b = true := by
        intro a
        induction a with
        | nil => intro b h; exact h
        | cons y a ih => intro b h; simp only [List.cons_append, noneIn, Bool.and_eq_true] at h; exact ih b h.2
      rw [allNs, List.flatMap_cons] at hf
      exact key _ _ hf
    have key : ((∃ j x, xs[j]? = some x ∧ L (i + 1 + j) = true ∧ get x.h t = some y) ∨ get own t = some y) → get (pickH L (i + 1) xs ++ own) t = some y := pickH_mk d2 hf'
    have hne : ((∃ j x, xs[j]? = some x ∧ L (i + 1 + j) = true ∧ get x.h t = some y) ∨ get own t = some y) → get x.h t = none := by
      intro hh
      cases hg : get x.h t with
      | none => rfl
      | some q =>
        have h5 := get_mem_fst hg
        rcases hh with ⟨j, z, h1, _, h3⟩ | h1
        · exact absurd (List.mem_flatMap.2 ⟨z, List.mem_of_getElem? h1, get_mem_fst h3⟩) (d3 t h5)
        · have : t ∈ allNs (x :: xs) := by rw [allNs, List.flatMap_cons]; exact List.mem_append_left _ h5
          rw [noneIn_mem hf this] at h1; cases h1
    rw [pickH]
    rcases h with ⟨j, z, h1, h2, h3⟩ | h1
    · cases j with
      | zero =>
        simp only [List.getElem?_cons_zero, Option.some.injEq] at h1
        subst h1
        rw [Nat.add_zero] at h2
        rw [h2, cond_true, List.append_assoc, get_append, h3]
      | succ j =>
        have hh : ((∃ j x, xs[j]? = some x ∧ L (i + 1 + j) = true ∧ get x.h t = some y) ∨ get own t = some y) := .inl ⟨j, z, by simpa using h1, by rw [show i + 1 + j = i + (j + 1) from by omega]; exact h2, h3⟩
        cases L i with
        | true => rw [cond_true, List.append_assoc, get_append, hne hh]; exact key hh
        | false => rw [cond_false]; exact key hh
    · cases L i with
      | true => rw [cond_true, List.append_assoc, get_append, hne (.inr h1)]; exact key (.inr h1)
      | false => rw [cond_false]; exact key (.inr h1)
/-- One operation, from whatever holds what it needs. -/
def Loc (C : Cx) (slm : List (Nat × AV)) (ownm : List (Nat × OB)) (x : XI) (dl : Dl) : Prop :=
  ∀ sl own, (∀ t y, get slm t = some y → get sl t = some y) → (∀ e ob, get ownm e = some ob → get own e = some ob) → freeN sl own (dl.h.map Prod.fst) = true →
    AXI C false [] [x] ⟨sl, own⟩ (fun st' => (∀ t y, get ((dl.d, dl.r) :: sl) t = some y → get st'.sl t = some y) ∧ (∀ e ob, get (dl.h ++ own) e = some ob → get st'.own e = some ob))
def depOf (deps : List (List Nat)) (i : Nat) : Nat → Bool := fun j => match deps[i]? with | some l => membN j l | none => false
def indepI (deps : List (List Nat)) (i : Nat) (ns : List Nat) : Nat → List Dl → Bool
  | _, [] => true
  | j, y :: ys => (Nat.beq i j || depOf deps j i || ns.all (fun n => nrA n y.r && nrOs n y.h)) && indepI deps i ns (j + 1) ys
def indepB (deps : List (List Nat)) (acc : List Dl) : Nat → List Dl → Bool
  | _, [] => true
  | i, x :: xs => indepI deps i (x.h.map Prod.fst) 0 acc && indepB deps acc (i + 1) xs
def nsOK (sl : List (Nat × AV)) (own : List (Nat × OB)) : List Nat → Bool
  | [] => true
  | n :: ns => Nat.ble (n + 1) 1000 && nrS n sl && nrOs n own && nsOK sl own ns
theorem indepI_spec {deps : List (List Nat)} {i : Nat} {ns : List Nat} : ∀ {ys : List Dl} {j k : Nat} {y : Dl}, indepI deps i ns j ys = true → ys[k]? = some y → i ≠ j + k → depOf deps (j + k) i = false → ∀ n ∈ ns, nrA n y.r = true ∧ nrOs n y.h = true
  | z :: ys, j, k, y, h, hk, hne, hd, n, hn => by
    simp only [indepI, Bool.and_eq_true, Bool.or_eq_true, List.all_eq_true] at h
    cases k with
    | zero =>
      simp only [List.getElem?_cons_zero, Option.some.injEq] at hk
      subst hk
      rw [Nat.add_zero] at hne hd
      rcases h.1 with (h1 | h1) | h1
      · exact absurd (Nat.eq_of_beq_eq_true h1) hne
      · rw [hd] at h1; cases h1
      · exact h1 n hn
    | succ k => exact indepI_spec (j := j + 1) (k := k) h.2 (by simpa using hk) (by omega) (by rw [show j + 1 + k = j + (k + 1) from by omega]; exact hd) n hn
theorem indepB_spec {deps : List (List Nat)} {acc : List Dl} : ∀ {xs : List Dl} {i k : Nat} {x : Dl}, indepB deps acc i xs = true → xs[k]? = some x → indepI deps (i + k) (x.h.map Prod.fst) 0 acc = true
  | z :: xs, i, k, x, h, hk => by
    simp only [indepB, Bool.and_eq_true] at h
    cases k with
    | zero =>
      simp only [List.getElem?_cons_zero, Option.some.injEq] at hk
      subst hk
      exact h.1
    | succ k => rw [show i + (k + 1) = i + 1 + k from by omega]; exact indepB_spec h.2 (by simpa using hk)
theorem nsOK_spec {sl : List (Nat × AV)} {own : List (Nat × OB)} : ∀ {ns : List Nat} {n : Nat}, nsOK sl own ns = true → n ∈ ns → n < 1000 ∧ nrS n sl = true ∧ nrOs n own = true
  | m :: ns, n, h, hn => by
    simp only [nsOK, Bool.and_eq_true] at h
    rcases List.mem_cons.1 hn with rfl | hn
    · exact ⟨by have := Nat.le_of_ble_eq_true h.1.1.1; omega, h.1.1.2, h.1.2⟩
    · exact nsOK_spec h.2 hn
theorem nrS_append {n : Nat} : ∀ (a b : List (Nat × AV)), nrS n (a ++ b) = (nrS n a && nrS n b)
  | [], b => by simp [nrS]
  | (k, x) :: a, b => by rw [List.cons_append, nrS, nrS, nrS_append a b, Bool.and_assoc]
theorem nrOs_append {n : Nat} : ∀ (a b : List (Nat × OB)), nrOs n (a ++ b) = (nrOs n a && nrOs n b)
  | [], b => by simp [nrOs]
  | (k, x) :: a, b => by rw [List.cons_append, nrOs, nrOs, nrOs_append a b, Bool.and_assoc]
theorem nrS_pick {n : Nat} {L : Nat → Bool} : ∀ {acc : List Dl} {i : Nat}, (∀ j x, acc[j]? = some x → L (i + j) = true → nrA n x.r = true) → nrS n (pickS L i acc) = true
  | [], i, h => rfl
  | x :: xs, i, h => by
    have ih : nrS n (pickS L (i + 1) xs) = true := nrS_pick fun j y hj hL => h (j + 1) y (by simpa using hj) (by rw [show i + (j + 1) = i + 1 + j from by omega]; exact hL)
    rw [pickS]
    cases hL : L i with
    | true => rw [cond_true, nrS, ih, h 0 x rfl hL]; rfl
    | false => rw [cond_false]; exact ih
theorem nrOs_pick {n : Nat} {L : Nat → Bool} : ∀ {acc : List Dl} {i : Nat}, (∀ j x, acc[j]? = some x → L (i + j) = true → nrOs n x.h = true) → nrOs n (pickH L i acc) = true
  | [], i, h => rfl
  | x :: xs, i, h => by
    have ih : nrOs n (pickH L (i + 1) xs) = true := nrOs_pick fun j y hj hL => h (j + 1) y (by simpa using hj) (by rw [show i + (j + 1) = i + 1 + j from by omega]; exact hL)
    rw [pickH]
    cases hL : L i with
    | true => rw [cond_true, nrOs_append, ih, h 0 x rfl hL]; rfl
    | false => rw [cond_false]; exact ih
theorem freeN_mk {sl : List (Nat × AV)} {own : List (Nat × OB)} : ∀ {ns : List Nat}, distinct ns = true → (∀ n ∈ ns, n < 1000 ∧ nrS n sl = true ∧ nrOs n own = true) → freeN sl own ns = true
  | [], _, _ => rfl
  | n :: ns, hd, h => by
    simp only [distinct, Bool.and_eq_true] at hd
    obtain ⟨h1, h2, h3⟩ := h n (List.mem_cons_self)
    simp only [freeN, Bool.and_eq_true]
    exact ⟨⟨⟨⟨Nat.ble_eq_true_of_le h1, h2⟩, h3⟩, hd.1⟩, freeN_mk hd.2 (fun m hm => h m (List.mem_cons_of_mem _ hm))⟩
theorem wpOp_congr {P : Program} {ops : Array Oper} {Q Q' : Exit → Act → World → Prop} {i : Nat} {K : Act → World → Prop} {a : Act} {w : World} (hQ : ∀ e a w, e ≠ .normal → Q e a w → Q' e a w) (h : wpOp P ops Q i K a w) : wpOp P ops Q' i K a w := by
  have hL : LetsOut Q → LetsOut Q' := fun ⟨a, w, h⟩ => ⟨a, w, hQ _ _ _ (by simp) h⟩
  unfold wpOp at *
  split
  · rename_i ho; simpa [ho] using h
  · rename_i o ho
    simp only [ho] at h
    split
    · rename_i hw
      simp only [hw, if_true] at h
      refine h.imp (fun hh => ?_) (fun ⟨h1, h2⟩ => ⟨h1, hL h2⟩)
      unfold Oper.wp at *
      generalize (execOp a.eval o).run P w = r at *
      cases r with
      | ok n w' =>
        cases n <;> simp only [Oper.upon] at hh ⊢ <;>
          first
            | exact hh
            | exact Calls.mono hh (fun e w'' he => by cases e <;> first | exact he | exact hQ _ _ _ (by simp) he | exact hL he)
      | halt x w' => cases x <;> simp only [Oper.upon] at hh ⊢ <;> first | exact hh | exact hQ _ _ _ (by simp) hh
    · rename_i hw; simp only [hw] at h; exact h
theorem Array.any_iff_exists_mem' {α : Type} {xs : Array α} {p : α → Bool} (h : xs.any p = true) : ∃ x, x ∈ xs ∧ p x = true := by
  rw [← Array.any_toList, List.any_eq_true] at h
  obtain ⟨x, h1, h2⟩ := h
  exact ⟨x, by simpa using h1, h2⟩
theorem depsOK_spec {ops : Array Oper} {deps : List (List Nat)} {n : Nat} (h : depsOK ops deps n = true) {i : Nat} {o : Oper} (ho : ops[i]? = some o) :
    ∃ ds, deps[i]? = some ds ∧ (∀ e ∈ o.after, Region.binds .any e = true → e.on < i) ∧ (∀ j ∈ ds, j < i ∧ ∃ e ∈ o.after, Region.binds .any e = true ∧ (e.on = j ∨ depOf deps e.on j = true)) ∧ (n ≤ i → ∀ j, j < i → j ∈ ds) := by
  unfold depsOK at h
  have hi : i < ops.size := (Array.getElem?_eq_some_iff.1 ho).1
  have := List.all_eq_true.1 h i (List.mem_range.2 hi)
  rw [ho] at this
  split at this
  · rename_i o' ds h1 h2
    cases h1
    simp only [Bool.and_eq_true] at this
    obtain ⟨⟨h3, h4⟩, h5⟩ := this
    refine ⟨ds, h2, fun e he hbd => ?_, fun j hj => ?_, fun hn j hj => ?_⟩
    · have := Array.all_eq_true_iff_forall_mem.1 h3 e he
      rw [hbd, Bool.not_true, Bool.false_or] at this
      have := Nat.le_of_ble_eq_true this
      omega
    · have := List.all_eq_true.1 h4 j hj
      simp only [Bool.and_eq_true] at this
      obtain ⟨q1, q2⟩ := this
      have q1 := Nat.le_of_ble_eq_true q1
      obtain ⟨e, q3, q4⟩ := Array.any_iff_exists_mem' q2
      simp only [Bool.and_eq_true, Bool.or_eq_true] at q4
      refine ⟨by omega, e, q3, q4.1, ?_⟩
      rcases q4.2 with q | q
      · exact .inl (Nat.eq_of_beq_eq_true q)
      · exact .inr q
    · have hb : Nat.ble n i = true := Nat.ble_eq_true_of_le hn
      rw [hb, cond_true] at h5
      exact membN_iff.1 (List.all_eq_true.1 h5 j (List.mem_range.2 hj))
  · cases this
/-- What is listed holds what it needs. -/
def Closed (deps : List (List Nat)) (ops : Array Oper) (listed : Array Bool) : Prop :=
  listed.size = ops.size ∧ ∀ i j, listed.getD i false = true → depOf deps i j = true → listed.getD j false = true
theorem ready_deps {ops : Array Oper} {deps : List (List Nat)} {n : Nat} (h : depsOK ops deps n = true) {listed : Array Bool} (hc : Closed deps ops listed) {i : Nat} (hr : i ∈ Region.ready .any ops listed) :
    ∀ j, depOf deps i j = true → listed.getD j false = true := by
  intro j hj
  obtain ⟨_, o, ho, hall⟩ := mem_ready.1 hr
  obtain ⟨ds, h1, _, h2, _⟩ := depsOK_spec h ho
  unfold depOf at hj
  rw [h1] at hj
  obtain ⟨_, e, he, hb, h3⟩ := h2 j (membN_iff.1 hj)
  have h4 := hall e he hb
  rcases h3 with rfl | h3
  · exact h4
  · exact hc.2 _ _ h4 h3
theorem getD_set {listed : Array Bool} {i j : Nat} (hi : i < listed.size) : (listed.setIfInBounds i true).getD j false = (Nat.beq i j || listed.getD j false) := by
  by_cases h : i = j
  · subst h; simp [hi]
  · rw [getD_set_ne false h]
    have : Nat.beq i j = false := by
      cases hb : Nat.beq i j with
      | false => rfl
      | true => exact absurd (Nat.eq_of_beq_eq_true hb) h
    rw [this, Bool.false_or]
theorem Closed.step {ops : Array Oper} {deps : List (List Nat)} {n : Nat} (h : depsOK ops deps n = true) {listed : Array Bool} (hc : Closed deps ops listed) {i : Nat} (hr : i ∈ Region.ready .any ops listed) :
    Closed deps ops (listed.setIfInBounds i true) := by
  have hlt : i < listed.size := by
    have := (mem_ready.1 hr).1
    rcases Nat.lt_or_ge i listed.size with h | h
    · exact h
    · simp [Array.getElem?_eq_none h] at this
  refine ⟨by simp [hc.1], fun k j hk hj => ?_⟩
  rw [getD_set hlt] at hk ⊢
  rw [Bool.or_eq_true] at hk ⊢
  rcases hk with hk | hk
  · have := Nat.eq_of_beq_eq_true hk
    subst this
    exact .inr (ready_deps h hc hr j hj)
  · exact .inr (hc.2 k j hk hj)
/-- Ordered by force from the n-th on. -/
theorem wpAny_forced {P : Program} {ops : Array Oper} {Q : Exit → Act → World → Prop} {deps : List (List Nat)} {n : Nat} (hD : depsOK ops deps n = true) : ∀ (m k : Nat) (listed : Array Bool) (a : Act) (w : World), n ≤ k → k + m = ops.size → Closed deps ops listed →
    (∀ j, listed.getD j false = true ↔ j < k) → wpOps P ops Q (List.range' k m) a w → wpAny P .any ops Q m listed a w := by
  intro m
  induction m with
  | zero =>
    intro k listed a w hnk hk hc hl h
    refine ⟨?_, by simpa [wpOps] using h⟩
    cases hr : Region.ready .any ops listed with
    | nil => rfl
    | cons i is =>
      have h1 : i ∈ Region.ready .any ops listed := by rw [hr]; exact List.mem_cons_self
      obtain ⟨h2, o, ho, _⟩ := mem_ready.1 h1
      have hi := (Array.getElem?_eq_some_iff.1 ho).1
      have := (hl i).2 (by omega)
      have hs : i < listed.size := by rw [hc.1]; exact hi
      simp [hs] at h2 this
      rw [h2] at this; cases this
  | succ m ih =>
    intro k listed a w hnk hk hc hl h
    have hko : ∃ o, ops[k]? = some o := ⟨ops[k]'(by omega), by simp [show k < ops.size from by omega]⟩
    obtain ⟨o, ho⟩ := hko
    have hks : k < listed.size := by rw [hc.1]; omega
    have hkr : k ∈ Region.ready .any ops listed := by
      refine mem_ready.2 ⟨?_, o, ho, fun e he hbd => ?_⟩
      · have : ¬ listed.getD k false = true := fun hh => by have := (hl k).1 hh; omega
        simp [hks] at this ⊢; exact this
      · obtain ⟨_, _, h2, _⟩ := depsOK_spec hD ho
        exact (hl _).2 (h2 e he hbd)
    refine ⟨fun h0 => (by rw [h0] at hkr; cases hkr), fun i hi => ?_⟩
    have hik : i = k := by
      obtain ⟨h2, o', ho', _⟩ := mem_ready.1 hi
      have hi' := (Array.getElem?_eq_some_iff.1 ho').1
      have hs : i < listed.size := by rw [hc.1]; exact hi'
      have hge : ¬ i < k := fun hlt => by
        have := (hl i).2 hlt
        simp [hs] at h2 this
        rw [h2] at this; cases this
      rcases Nat.lt_or_ge k i with h3 | h3
      · obtain ⟨ds, h4, _, _, h5⟩ := depsOK_spec hD ho'
        have h6 := ready_deps hD hc hi k (by unfold depOf; rw [h4]; exact membN_iff.2 (h5 (by omega) k h3))
        have := (hl k).1 h6
        omega
      · omega
    subst hik
    rw [List.range'_succ, Go.wpOps_cons] at h
    refine wpOp_mono (fun a' w' h' => ih (i + 1) _ a' w' (by omega) (by omega) (hc.step hD hi) (fun j => ?_) h') h
    rw [getD_set hks, Bool.or_eq_true, hl j]
    constructor
    · rintro (h | h)
      · have := Nat.eq_of_beq_eq_true h; omega
      · omega
    · intro h
      rcases Nat.lt_or_ge j i with h' | h'
      · exact .inr h'
      · exact .inl (by rw [show j = i from by omega]; exact Nat.beq_refl i)
/-- How many are not listed. -/
def todo (listed : Array Bool) : Nat := listed.toList.countP (fun b => !b)
theorem todo_set {listed : Array Bool} {i : Nat} (h : listed[i]? = some false) : todo (listed.setIfInBounds i true) + 1 = todo listed := by
  have key : ∀ (l : List Bool) (i : Nat), l[i]? = some false → (l.set i true).countP (fun b => !b) + 1 = l.countP (fun b => !b) := by
    intro l
    induction l with
    | nil => intro i h; simp at h
    | cons b l ih =>
      intro i h
      cases i with
      | zero =>
        simp only [List.getElem?_cons_zero, Option.some.injEq] at h
        subst h
        simp
      | succ i =>
        have := ih i (by simpa using h)
        simp only [List.set_cons_succ, List.countP_cons]
        omega
  unfold todo
  rw [Array.toList_setIfInBounds]
  exact key _ _ (by simpa using h)
theorem fitIs_each {P : Program} {n : Nat} {ops : Array Oper} : ∀ {xs : List XI} {i : Nat}, fitIs P n ops [] 0 xs i = some (i + xs.length) → ∀ j x, xs[j]? = some x → fitIs P n ops [] 0 [x] (i + j) = some (i + j + 1)
  | [], i, h, j, x, hx => by simp at hx
  | y :: ys, i, h, j, x, hx => by
    obtain ⟨m, h1, h2, h3, h4⟩ := fitIs_cons h
    have hb : ∀ (ys : List XI) (m k : Nat), fitIs P n ops [] 0 ys m = some k → m + ys.length ≤ k := by
      intro ys
      induction ys with
      | nil => intro m k h; rw [fitIs] at h; cases h; simp
      | cons z zs ih =>
        intro m k h
        obtain ⟨m', q1, q2, q3, q4⟩ := fitIs_cons h
        have := ih m' k q2
        simp only [List.length_cons]
        omega
    have h5 := hb ys m _ h2
    simp only [List.length_cons] at h5 h2
    have hm : m = i + 1 := by omega
    subst hm
    cases j with
    | zero =>
      simp only [List.getElem?_cons_zero, Option.some.injEq] at hx
      subst hx
      rw [fitIs, Nat.add_zero, h1]
      rfl
    | succ j =>
      have := fitIs_each (xs := ys) (i := i + 1) (by rw [h2]; congr 1; omega) j x (by simpa using hx)
      rw [show i + (j + 1) = i + 1 + j from by omega]
      exact this
end Go.AM

namespace Go.AM
theorem ds_ne : ∀ {acc : List Dl} {i j : Nat} {x y : Dl}, distinct (acc.map Dl.d) = true → acc[i]? = some x → acc[j]? = some y → i ≠ j → x.d ≠ y.d
  | z :: acc, i, j, x, y, h, hi, hj, hne => by
    simp only [List.map_cons, distinct, Bool.and_eq_true, Bool.not_eq_true'] at h
    have hz : z.d ∉ acc.map Dl.d := fun hm => by rw [memb_iff.2 hm] at h; cases h.1
    cases i with
    | zero =>
      cases j with
      | zero => exact absurd rfl hne
      | succ j =>
        simp only [List.getElem?_cons_zero, Option.some.injEq] at hi
        subst hi
        intro he
        exact hz (by rw [he]; exact List.mem_map_of_mem (List.mem_of_getElem? (by simpa using hj)))
    | succ i =>
      cases j with
      | zero =>
        simp only [List.getElem?_cons_zero, Option.some.injEq] at hj
        subst hj
        intro he
        exact hz (by rw [← he]; exact List.mem_map_of_mem (List.mem_of_getElem? (by simpa using hi)))
      | succ j => exact ds_ne h.2 (by simpa using hi) (by simpa using hj) (by omega)
theorem ns_ne : ∀ {acc : List Dl} {i j : Nat} {x y : Dl}, distinct (allNs acc) = true → acc[i]? = some x → acc[j]? = some y → i ≠ j → ∀ n ∈ x.h.map Prod.fst, n ∉ y.h.map Prod.fst
  | z :: acc, i, j, x, y, h, hi, hj, hne, n, hn => by
    rw [allNs, List.flatMap_cons] at h
    obtain ⟨h1, h2, h3⟩ := distinct_append h
    cases i with
    | zero =>
      cases j with
      | zero => exact absurd rfl hne
      | succ j =>
        simp only [List.getElem?_cons_zero, Option.some.injEq] at hi
        subst hi
        intro he
        exact h3 n hn (List.mem_flatMap.2 ⟨y, List.mem_of_getElem? (by simpa using hj), he⟩)
    | succ i =>
      cases j with
      | zero =>
        simp only [List.getElem?_cons_zero, Option.some.injEq] at hj
        subst hj
        intro he
        exact h3 n he (List.mem_flatMap.2 ⟨x, List.mem_of_getElem? (by simpa using hi), hn⟩)
      | succ j => exact ns_ne h2 (by simpa using hi) (by simpa using hj) (by omega) n hn
theorem ns_distinct : ∀ {acc : List Dl} {i : Nat} {x : Dl}, distinct (allNs acc) = true → acc[i]? = some x → distinct (x.h.map Prod.fst) = true ∧ ∀ n ∈ x.h.map Prod.fst, n ∈ allNs acc
  | z :: acc, i, x, h, hi => by
    rw [allNs, List.flatMap_cons] at h ⊢
    obtain ⟨h1, h2, _⟩ := distinct_append h
    cases i with
    | zero =>
      simp only [List.getElem?_cons_zero, Option.some.injEq] at hi
      subst hi
      exact ⟨h1, fun n hn => List.mem_append_left _ hn⟩
    | succ i =>
      obtain ⟨h3, h4⟩ := ns_distinct h2 (by simpa using hi)
      exact ⟨h3, fun n hn => List.mem_append_right _ (h4 n hn)⟩
theorem todo_first : ∀ (l : List Bool) (n : Nat), n ≤ l.length → (∀ j, l.getD j false = true ↔ j < n) → l.countP (fun b => !b) + n = l.length
  | [], n, hn, _ => by simp at hn ⊢; exact hn
  | b :: l, n, hn, h => by
    cases n with
    | zero =>
      have hb : b = false := by
        have := (h 0).1
        cases b with
        | false => rfl
        | true => have := this rfl; omega
      subst hb
      have := todo_first l 0 (Nat.zero_le _) (fun j => by have := h (j + 1); simpa using this)
      simp at this ⊢
      omega
    | succ n =>
      have hb : b = true := by have := (h 0).2 (by omega); simpa using this
      subst hb
      have := todo_first l n (by simp at hn; omega) (fun j => by have := h (j + 1); simpa using this)
      simp at this ⊢
      omega
end Go.AM

namespace Go.AM
theorem evA_mono {slm sl : List (Nat × AV)} (h : ∀ t y, get slm t = some y → get sl t = some y) {x : XA} {v : AV} (hx : evA slm x = some v) : evA sl x = some v := by
  cases x with
  | t n => exact h n v hx
  | _ => exact hx
theorem evL_mono {slm sl : List (Nat × AV)} (h : ∀ t y, get slm t = some y → get sl t = some y) : ∀ {xs : List XA} {vs : List AV}, evL slm xs = some vs → evL sl xs = some vs
  | [], vs, hx => hx
  | x :: xs, vs, hx => by
    rw [evL] at hx ⊢
    split at hx
    · rename_i y hy
      rw [evA_mono h hy]
      split at hx
      · rename_i ys hys
        rw [evL_mono h hys]
        exact hx
      · cases hx
    · cases hx
theorem evRows_mono {slm sl : List (Nat × AV)} (h : ∀ t y, get slm t = some y → get sl t = some y) {sz : Nat} : ∀ {xs : List XA} {rows : List (List D)}, evRows slm sz xs = some rows → evRows sl sz xs = some rows
  | [], rows, hx => hx
  | x :: xs, rows, hx => by
    rw [evRows] at hx ⊢
    cases hy : evA slm x with
    | none => rw [hy] at hx; cases hx
    | some y =>
      rw [hy] at hx
      rw [evA_mono h hy]
      revert hx
      dsimp only
      cases cellsA y with
      | none => exact fun hx => hx
      | some cs =>
        dsimp only
        cases toDs cs with
        | none => exact fun hx => hx
        | some ds =>
          dsimp only
          cases Nat.beq ds.length sz with
          | false => exact fun hx => hx
          | true =>
            rw [cond_true, cond_true]
            cases hr : evRows slm sz xs with
            | none => intro hx; cases hx
            | some r => rw [evRows_mono h hr]; exact fun hx => hx
section
variable {C : Cx} {slm : List (Nat × AV)} {ownm : List (Nat × OB)}
theorem freeN_one {sl : List (Nat × AV)} {own : List (Nat × OB)} {d : Nat} (h : freeN sl own [d] = true) : d < 1000 ∧ nrS d sl = true ∧ nrOs d own = true := freeN_spec h d (List.mem_singleton.2 rfl)
theorem loc_q {d : Nat} {x : XOp} {r : AV} (hq : QStep C ⟨slm, ownm⟩ x r) : Loc C slm ownm (.op (some d) x) ⟨d, r, []⟩ := by
  intro sl own h1 h2 _
  refine ax_q (r := r) (fun o hf a w β S => hq o hf a w β (S.le h1 h2)) (ax_nil ⟨fun t y h => h, fun e ob h => h⟩)
theorem loc_qe {d : Nat} {x : XOp} {r r' : AV} (hq : QStep C ⟨slm, ownm⟩ x r) (he : r = r') : Loc C slm ownm (.op (some d) x) ⟨d, r', []⟩ := he ▸ loc_q hq
theorem loc_bslice {d sz : Nat} {xs : List XA} {rows : List (List D)} (hr : evRows slm sz xs = some rows) : Loc C slm ownm (.op (some d) (.bslice sz xs)) ⟨d, .osl d sz 0 rows.length, [(d, .rows sz rows)]⟩ := by
  intro sl own h1 h2 hf
  obtain ⟨f1, f2, f3⟩ := freeN_one hf
  exact ax_e (e_bslice (evRows_mono h1 hr) f1 f2 f3) (ax_nil ⟨fun t y h => h, fun e ob h => h⟩)
theorem loc_mkslice {d sz bytes : Nat} {zs : List K} {l c : XA} {n m : Int} {row : List D} {k1 k2 : IntKind} (hl : evA slm l = some (.d (.int k1 n))) (hc : evA slm c = some (.d (.int k2 m))) (hz : zrow zs = some row)
    (h0 : 0 ≤ n) (h1 : n ≤ m) (hb : m * bytes ≤ 2 ^ 48) : Loc C slm ownm (.op (some d) (.mkslice sz bytes zs l c)) ⟨d, .osl d sz 0 n.toNat, [(d, .rows sz (List.replicate n.toNat row))]⟩ := by
  intro sl own g1 g2 hf
  obtain ⟨f1, f2, f3⟩ := freeN_one hf
  exact ax_e (e_mkslice (evA_mono g1 hl) (evA_mono g1 hc) hz h0 h1 hb f1 f2 f3) (ax_nil ⟨fun t y h => h, fun e ob h => h⟩)
theorem domIs_self : ∀ (h : List (Nat × OB)) (l : List Nat), (∀ n ∈ l, n ∈ h.map Prod.fst) → domIs h l = true
  | h, [], _ => rfl
  | h, n :: l, hl => by
    rw [domIs, Bool.and_eq_true]
    refine ⟨?_, domIs_self h l (fun m hm => hl m (List.mem_cons_of_mem _ hm))⟩
    have : ∀ (h : List (Nat × OB)), n ∈ h.map Prod.fst → (get h n).isSome = true := by
      intro h
      induction h with
      | nil => intro hm; simp at hm
      | cons p r ih =>
        obtain ⟨k, ob⟩ := p
        intro hm
        rw [get_cons]
        split
        · rfl
        · rename_i hk
          simp only [List.map_cons, List.mem_cons] at hm
          rcases hm with hm | hm
          · exact absurd hm.symm hk
          · exact ih hm
    have := this h (hl n List.mem_cons_self)
    split
    · rfl
    · rename_i hh; rw [hh] at this; cases this
theorem domIn_self : ∀ (h : List (Nat × OB)) (N : List Nat), (∀ n ∈ h.map Prod.fst, n ∈ N) → domIn N h = true
  | [], N, _ => rfl
  | (e, ob) :: r, N, hN => by
    rw [domIn, Bool.and_eq_true]
    exact ⟨memb_iff.2 (hN e (by simp)), domIn_self r N (fun n hn => hN n (by simp only [List.map_cons]; exact List.mem_cons_of_mem _ hn))⟩
theorem renOs_fst {τ : Nat → Nat} : ∀ (h : List (Nat × OB)), (renOs τ h).map Prod.fst = (h.map Prod.fst).map τ
  | [] => rfl
  | (e, ob) :: r => by rw [renOs, List.map_cons, List.map_cons, List.map_cons, renOs_fst r]
theorem loc_call {P : Program} {mv : Nat → Bool} {d f : Nat} {args : List XA} {vs args0 : List AV} {r : AV} {h : List (Nat × OB)} (τ : Nat → Nat) (sc : Bool) (ha : evL slm args = some vs)
    (hcon : Con P mv f args0 [] (fun r' h' => r' = r ∧ h' = h)) (hP : C.P = P) (hl : (sc = true ∧ LAL ownm vs args0) ∨ (sc = false ∧ vs = args0 ∧ refsInL [] vs = true))
    (hr : refsIn (h.map Prod.fst) r = true) (ho : refsInOs (h.map Prod.fst) h = true) (hs : sc = true → noIsl r = true ∧ ∀ e ob, get h e = some ob → noIslO ob) :
    Loc C slm ownm (.call (some d) f args) ⟨d, renA τ r, renOs τ h⟩ := by
  intro sl own h1 h2 hf
  rw [renOs_fst] at hf
  refine ax_call (evL_mono h1 ha) (vcall_gen hcon hP sc ?_ ?_)
  · intro a w β us S A
    rcases hl with ⟨rfl, hl⟩ | ⟨rfl, rfl, hl⟩
    · have S' : SatB C ⟨sl, ownm⟩ a w β := S.le (fun _ _ h => h) h2
      exact LAL.al S'.hr (fun _ ⟨h1, _⟩ => ⟨fun h => (noN_XH h).elim (fun h => h1 (.inl h)) (fun ⟨h, _⟩ => by cases h), fun e he => by cases he⟩)
        (fun e b _ hb => ⟨fun h => (noN_XH h).elim (fun h => S.hr.notX e b hb (.inl h)) (fun ⟨h, _⟩ => by cases h), fun e he => by cases he⟩)
        (fun e j b _ hb => ⟨fun h => (noN_XH h).elim (fun h => S.hr.hX e j b hb h) (fun ⟨h, _⟩ => by cases h), fun e he => by cases he⟩) hl A
    · exact AL_noref (fun _ ⟨h1, h2⟩ => ⟨fun h => (noN_XH h).elim (fun h => h1 (.inl h)) (fun ⟨_, h⟩ => h.elim (fun ⟨e, he⟩ => h2 e he) (fun h => h1 (.inr h))), fun e he => by cases he⟩) vs us hl A
  · rintro r' h' ⟨rfl, rfl⟩
    exact ⟨τ, h'.map Prod.fst, ⟨hr, domIs_self _ _ (fun _ h => h), domIn_self _ _ (fun _ h => h), ho, hf, hs⟩, ax_nil ⟨fun t y h => h, fun e ob h => h⟩⟩
end
end Go.AM

namespace Go.AM
mutual
/-- Cells of a type. -/
inductive HasC (P : Program) : TypeId → List D → Prop
  | bool {t : TypeId} (b : Bool) (h : P.underlying t = some .bool) : HasC P t [.bool b]
  | int {t : TypeId} {k : IntKind} (n : Int) (h : P.underlying t = some (.int k)) (hw : (Lit.int k n).wf = true) : HasC P t [.int k n]
  | str {t : TypeId} (s : List UInt8) (h : P.underlying t = some .string) (hl : s.length ≤ 9223372036854775807) : HasC P t [.str s]
  | nilp {t e : TypeId} (h : P.underlying t = some (.pointer e)) : HasC P t [.nilp]
  | ptr {t e : TypeId} {r : List D} (h : P.underlying t = some (.pointer e)) (hr : HasC P e r) : HasC P t [.ip r]
  | slice {t e : TypeId} (rows : List (List D)) (h : P.underlying t = some (.slice e)) (hl : rows.length ≤ 9223372036854775807) (hr : HasRs P e rows) : HasC P t [.sl (P.cellsOf e) rows]
  | struct {t : TypeId} {fs : Array Field} {ds : List D} (h : P.underlying t = some (.struct fs)) (hf : HasFs P fs.toList ds) : HasC P t ds
inductive HasRs (P : Program) : TypeId → List (List D) → Prop
  | nil {e : TypeId} : HasRs P e []
  | cons {e : TypeId} {r : List D} {rs : List (List D)} (h : HasC P e r) (hs : HasRs P e rs) : HasRs P e (r :: rs)
inductive HasFs (P : Program) : List Field → List D → Prop
  | nil : HasFs P [] []
  | cons {f : Field} {fs : List Field} {a b : List D} (h : HasC P f.type a) (hs : HasFs P fs b) : HasFs P (f :: fs) (a ++ b)
end
def fieldsOK (P : Program) (Ts : List TypeId) : List Field → Nat → Nat → Bool
  | [], off, n => Nat.beq off n
  | f :: fs, off, n => Nat.beq f.offset off && membN f.type Ts && fieldsOK P Ts fs (off + P.cellsOf f.type) n
/-- The types 'Ts' are read through themselves alone. -/
def closedT (P : Program) (Ts : List TypeId) : Bool :=
  Ts.all fun t => match P.underlying t with
    | some .bool | some (.int _) | some .string => true
    | some (.pointer e) | some (.slice e) => membN e Ts && Nat.ble 1 (P.cellsOf e)
    | some (.struct fs) => fieldsOK P Ts fs.toList 0 (P.cellsOf t)
    | _ => false
section
variable {P : Program} {Ts : List TypeId} {w : World} {ok : Nat → Prop}
theorem DL_app : ∀ {a b : List D} {u v : List Value}, DL w ok a u → DL w ok b v → DL w ok (a ++ b) (u ++ v)
  | [], b, u, v, h1, h2 => by rw [DL] at h1; subst h1; exact h2
  | x :: a, b, u, v, h1, h2 => by
    rw [DL] at h1
    obtain ⟨y, r, rfl, h3, h4⟩ := h1
    rw [List.cons_append, DL]
    exact ⟨y, r ++ v, rfl, h3, DL_app h4 h2⟩
theorem DRow_of : ∀ {ds : List D} {vs : List Value} {b o : Nat}, DL w ok ds vs → (∀ i, i < vs.length → w.cell? ⟨b, o + i, none⟩ = vs[i]?) → DRow w ok ds b o
  | [], vs, b, o, _, _ => by rw [DRow]; trivial
  | x :: ds, vs, b, o, h, hc => by
    rw [DL] at h
    obtain ⟨y, r, rfl, h3, h4⟩ := h
    rw [DRow]
    refine ⟨⟨y, by simpa using hc 0 (by simp), h3⟩, DRow_of h4 (fun i hi => ?_)⟩
    have := hc (i + 1) (by simp; omega)
    rw [show o + (i + 1) = o + 1 + i from by omega] at this
    simpa using this
theorem add_block (a : Addr) (n : Nat) : (a.add n).block = a.block := by unfold Addr.add; split <;> rfl
theorem add_off (a : Addr) (n : Nat) : (a.add n).off = a.off + n := by
  unfold Addr.add; split
  · rename_i h; rw [h]; rfl
  · rfl
theorem spot_none {a : Addr} {v : Value} (h : w.cell? a = some v) : a.spot = none := by
  unfold World.cell? at h
  split at h
  · split at h
    · cases h
    · rename_i hs; simpa using hs
  · cases h
theorem trod_D {H : Type} {enc : TypeId × Value → H} {base : Nat} {sp : Nat → Bool} {held : Bool} (hT : closedT P Ts = true) (hok : ∀ b, ok b) : ∀ (fuel : Nat) (t : TypeId) (cs : List Value) (x : DataW H × List MemPlace), t ∈ Ts →
    DataW.trod enc P w base sp held fuel t cs = some x → ∃ ds, DL w ok ds cs ∧ HasC P t ds
  | 0, t, cs, x, _, h => by simp [DataW.trod] at h
  | fuel + 1, t, cs, x, ht, h => by
    have hc := List.all_eq_true.1 hT t ht
    have key : ∀ (e : TypeId) (b : Nat) (a : Addr) (y : DataW H × List MemPlace), e ∈ Ts → 0 < P.cellsOf e → (w.cells? b a (P.cellsOf e)).bind (DataW.trod enc P w base sp held fuel e) = some y →
        ∃ ds, HasC P e ds ∧ ds.length = P.cellsOf e ∧ a.spot = none ∧ a.block < w.heap.size ∧ DRow w ok ds a.block a.off := by
      intro e b a y he hpos hy
      rw [Option.bind_eq_some_iff] at hy
      obtain ⟨vs, h1, h2⟩ := hy
      obtain ⟨ds, h3, h4⟩ := trod_D hT hok fuel e vs y he h2
      obtain ⟨_, h5, h6⟩ := World.cells?_some h1
      have h0 := h6 0 hpos
      have hne : ∃ v, vs[0]? = some v := ⟨vs[0]'(by omega), by simp [show 0 < vs.length from by omega]⟩
      obtain ⟨v0, hv0⟩ := hne
      rw [hv0] at h0
      have hs : a.spot = none := by simpa [Addr.add] using spot_none h0
      refine ⟨ds, h4, by rw [← DL_len h3, h5], hs, by have := cell_lt h0; simpa [Addr.add] using this, DRow_of h3 (fun i hi => ?_)⟩
      have := h6 i (by omega)
      rw [← this]
      obtain ⟨ab, ao, as⟩ := a
      simp only at hs
      subst hs
      unfold Addr.add
      split
      · rename_i hz; rw [hz]; rfl
      · rfl
    unfold DataW.trod at h
    split at h
    · rename_i b hu
      exact ⟨[.bool b], by simp [DL, DR], .bool b hu⟩
    · rename_i k k' n hu
      split at h
      · rename_i hk
        obtain ⟨rfl, hw⟩ := hk
        exact ⟨[.int _ n], by simp [DL, DR], .int n hu hw⟩
      · cases h
    · rename_i hu; rw [hu] at hc; cases hc
    · rename_i s hu
      split at h
      · rename_i hs
        refine ⟨[.str s.data.toList], by simp [DL, DR], .str _ hu ?_⟩
        have : maxLen = 9223372036854775807 := by decide
        rw [Array.length_toList, ← this]; exact hs
      · cases h
    · rename_i e hu
      exact ⟨[.nilp], by simp [DL, DR], .nilp hu⟩
    · rename_i e a hu
      rw [Option.map_eq_some_iff] at h
      obtain ⟨y, hy, _⟩ := h
      rw [hu] at hc
      simp only [Bool.and_eq_true] at hc
      obtain ⟨ds, h1, h2, h3, h4, h5⟩ := key e base a y (membN_iff.1 hc.1) (Nat.le_of_ble_eq_true hc.2) hy
      refine ⟨[.ip ds], ?_, .ptr hu h1⟩
      rw [DL]
      refine ⟨_, [], rfl, ?_, by rw [DL]⟩
      rw [DR]
      obtain ⟨ab, ao, as⟩ := a
      simp only at h3 h4 h5
      subst h3
      exact ⟨ab, ao, rfl, .inr ⟨hok _, h5⟩⟩
    · rename_i e hu
      refine ⟨[.sl (P.cellsOf e) []], ?_, .slice [] hu (by simp) .nil⟩
      rw [DL]
      refine ⟨_, [], rfl, ?_, by rw [DL]⟩
      rw [DR]
      exact ⟨none, 0, rfl, Nat.le_refl _, .inl rfl⟩
    · rename_i e a len cap hu
      rw [hu] at hc
      simp only [Bool.and_eq_true] at hc
      have he := membN_iff.1 hc.1
      have hpos := Nat.le_of_ble_eq_true hc.2
      simp only at h
      split at h
      · rename_i hb
        rw [Option.bind_eq_some_iff] at h
        obtain ⟨els, h1, _⟩ := h
        have hmax : maxLen = 9223372036854775807 := by decide
        have each : ∀ i, i < len → ∃ y, (w.cells? base (a.add (i * P.cellsOf e)) (P.cellsOf e)).bind (DataW.trod enc P w base sp held fuel e) = some y := by
          intro i hi
          have hlen := mapM_some_length h1
          have := mapM_some_get h1 i i (by simp [hi])
          have h2 : ∃ y, els[i]? = some y := ⟨els[i]'(by simp at hlen; omega), by simp at hlen; simp [show i < els.length from by omega]⟩
          obtain ⟨y, hy⟩ := h2
          exact ⟨y, by rw [this, hy]⟩
        have rows : ∀ n k, k + n = len → ∃ rs : List (List D), rs.length = n ∧ HasRs P e rs ∧ DRows w ok (P.cellsOf e) rs a.block (a.off + k * P.cellsOf e) := by
          intro n
          induction n with
          | zero => intro k _; exact ⟨[], rfl, .nil, by rw [DRows]; trivial⟩
          | succ n ih =>
            intro k hk
            obtain ⟨y, hy⟩ := each k (by omega)
            obtain ⟨ds, g1, g2, g3, g4, g5⟩ := key e base _ y he hpos hy
            obtain ⟨rs, g6, g7, g8⟩ := ih (k + 1) (by omega)
            refine ⟨ds :: rs, by simp [g6], .cons g1 g7, ?_⟩
            rw [DRows]
            refine ⟨g2, by rw [add_block, add_off] at g5; exact g5, ?_⟩
            rw [show a.off + k * P.cellsOf e + P.cellsOf e = a.off + (k + 1) * P.cellsOf e from by rw [Nat.succ_mul]; omega]
            exact g8
        obtain ⟨rs, r1, r2, r3⟩ := rows len 0 (by omega)
        refine ⟨[.sl (P.cellsOf e) rs], ?_, .slice rs hu (by rw [r1]; omega) r2⟩
        rw [DL]
        refine ⟨_, [], rfl, ?_, by rw [DL]⟩
        rw [DR, r1]
        refine ⟨some a, cap, rfl, hb.2.1, ?_⟩
        rcases Nat.eq_zero_or_pos len with hz | hz
        · left; exact List.eq_nil_of_length_eq_zero (by omega)
        · right
          obtain ⟨y, hy⟩ := each 0 hz
          obtain ⟨ds, g1, g2, g3, g4, g5⟩ := key e base _ y he hpos hy
          obtain ⟨ab, ao, as⟩ := a
          rw [Nat.zero_mul] at g3
          rw [add_block] at g4
          have g3 : as = none := g3
          subst g3
          exact ⟨ab, ao, rfl, hok _, g4, by simpa using r3⟩
      · cases h
    · rename_i cs _ _ fs hu
      split at h
      · rename_i hlen
        rw [hu] at hc
        rw [Option.map_eq_some_iff] at h
        obtain ⟨xs, hxs, _⟩ := h
        have go : ∀ (fl : List Field) (off : Nat) (ys : List (DataW H × List MemPlace)), fieldsOK P Ts fl off (P.cellsOf t) = true → off ≤ P.cellsOf t →
            (fl.mapM fun f => DataW.trod enc P w base sp held fuel f.type ((cs.drop f.offset).take (P.cellsOf f.type))) = some ys → ∃ ds, DL w ok ds (cs.drop off) ∧ HasFs P fl ds := by
          intro fl
          induction fl with
          | nil =>
            intro off ys hf _ _
            rw [fieldsOK] at hf
            have := Nat.eq_of_beq_eq_true hf
            refine ⟨[], ?_, .nil⟩
            rw [DL, List.drop_eq_nil_of_le (by omega)]
          | cons f fl ih =>
            intro off ys hf hle hm
            simp only [fieldsOK, Bool.and_eq_true] at hf
            obtain ⟨⟨f1, f2⟩, f3⟩ := hf
            have f1 := Nat.eq_of_beq_eq_true f1
            rw [List.mapM_cons] at hm
            simp only [Option.bind_eq_bind, Option.bind_eq_some_iff] at hm
            obtain ⟨y, hy, zs, hzs, _⟩ := hm
            have hge : ∀ (fl : List Field) (o : Nat), fieldsOK P Ts fl o (P.cellsOf t) = true → o ≤ P.cellsOf t := by
              intro fl
              induction fl with
              | nil => intro o h; rw [fieldsOK] at h; have := Nat.eq_of_beq_eq_true h; omega
              | cons g gl ih => intro o h; simp only [fieldsOK, Bool.and_eq_true] at h; have := ih _ h.2; omega
            obtain ⟨da, d1, d2⟩ := trod_D hT hok fuel f.type _ y (membN_iff.1 f2) hy
            obtain ⟨db, d3, d4⟩ := ih (off + P.cellsOf f.type) zs f3 (hge fl _ f3) hzs
            refine ⟨da ++ db, ?_, .cons d2 d4⟩
            rw [f1] at d1
            have := DL_app d1 d3
            rw [← List.drop_drop] at this
            rwa [List.take_append_drop] at this
        obtain ⟨ds, d1, d2⟩ := go fs.toList 0 xs hc (Nat.zero_le _) hxs
        exact ⟨ds, by simpa using d1, .struct hu d2⟩
      · cases h
    all_goals first | (cases h; done) | (rename_i hu; rw [hu] at hc; cases hc)
end
end Go.AM

namespace Go.AM
open Go.ChangeShapes Go.RowKit
def HasAll (P : Program) : List TypeId → List (List D) → Prop
  | [], ds => ds = []
  | t :: ts, ds => ∃ d r, ds = d :: r ∧ HasC P t d ∧ HasAll P ts r
def argAV (P : Program) (t : TypeId) (ds : List D) : AV :=
  match P.underlying t with
  | some (.struct _) => .agg (ds.map .d)
  | _ => match ds with
    | [x] => .d x
    | _ => .dead
def argsAV (P : Program) : List TypeId → List (List D) → List AV
  | t :: ts, d :: ds => argAV P t d :: argsAV P ts ds
  | _, _ => []
section
variable {H : Type} {enc : TypeId × Value → H} {P : Program} {Ts : List TypeId} {w : World}
theorem hasC_one {t : TypeId} {ds : List D} (h : HasC P t ds) (hn : ∀ fs, P.underlying t ≠ some (.struct fs)) : ∃ x, ds = [x] := by
  cases h with
  | bool b h => exact ⟨_, rfl⟩
  | int n h hw => exact ⟨_, rfl⟩
  | str s h hl => exact ⟨_, rfl⟩
  | nilp h => exact ⟨_, rfl⟩
  | ptr h hr => exact ⟨_, rfl⟩
  | slice rows h hl hr => exact ⟨_, rfl⟩
  | struct h hf => exact absurd h (hn _)
theorem argAV_one {t : TypeId} {x : D} (hn : ∀ fs, P.underlying t ≠ some (.struct fs)) : argAV P t [x] = .d x := by
  unfold argAV
  split
  · rename_i h; exact absurd h (hn _)
  · rfl
theorem argAV_struct {t : TypeId} {fs : Array Field} {ds : List D} (h : P.underlying t = some (.struct fs)) : argAV P t ds = .agg (ds.map .d) := by
  unfold argAV; rw [h]
theorem arg_AR (hT : closedT P Ts = true) {t : TypeId} (ht : t ∈ Ts) {v : Value} {d : DataW H} {ps : List MemPlace} {b : Nat} {sp : Nat → Bool} {r : Reach} {b0 : Nat} (hval : Value.okWide P w r b0 t v) (h : DataW.Trod enc P w b sp true t v d ps) :
    ∃ ds, HasC P t ds ∧ AR (fun _ => False) noN w (argAV P t ds) v := by
  obtain ⟨fuel, h⟩ := h
  obtain ⟨ds, h1, h2⟩ := trod_D hT (ok := okf (fun _ => False) noN) (fun b => ⟨fun h => noN_XH h, fun e he => by cases he⟩) fuel t _ _ ht h
  refine ⟨ds, h2, ?_⟩
  have hc := List.all_eq_true.1 hT t ht
  by_cases hs : ∃ fs, P.underlying t = some (.struct fs)
  · obtain ⟨fs, hu⟩ := hs
    unfold Value.okWide at hval
    rw [hu] at hval
    obtain ⟨cs, rfl, _, _⟩ := hval
    rw [argAV_struct hu, AR]
    exact ⟨cs, rfl, DL_AL h1⟩
  · have hn : ∀ fs, P.underlying t ≠ some (.struct fs) := fun fs h => hs ⟨fs, h⟩
    obtain ⟨x, rfl⟩ := hasC_one h2 hn
    rw [argAV_one hn, AR]
    have hv : ∀ cs, v ≠ .agg cs := by
      rintro cs rfl
      cases hu : P.underlying t with
      | none => rw [hu] at hc; cases hc
      | some k =>
        rw [hu] at hc
        cases k <;> first | (cases hc; done) | (simp [Value.okWide, hu, Cell.okWide, Cell.ok] at hval; done) | exact absurd hu (hn _)
    rw [DL] at h1
    obtain ⟨y, r, h3, h4, h5⟩ := h1
    have : v.cells.toList = [v] := by
      cases v <;> first | rfl | exact absurd rfl (hv _)
    rw [this] at h3
    cases h3
    exact h4
theorem args_AR (hT : closedT P Ts = true) {b : Nat} {sp : Nat → Bool} {r : Reach} {b0 : Nat} : ∀ {ts : List TypeId} {vs : List Value} {ds : List (DataW H)} {ps : List MemPlace}, (∀ t ∈ ts, t ∈ Ts) →
    (∀ (j : Nat) t v, ts[j]? = some t → vs[j]? = some v → Value.okWide P w r b0 t v) → DataW.TrodAll enc P w b sp true ts vs ds ps →
    ds.length = ts.length ∧ ∃ rows, HasAll P ts rows ∧ AL (fun _ => False) noN w (argsAV P ts rows) vs
  | [], vs, ds, ps, _, _, h => by
    obtain ⟨rfl, rfl, rfl⟩ := trodAll_nil h
    exact ⟨rfl, [], rfl, by rw [argsAV, AL]; intro t ts d ds h; cases h⟩
  | t :: ts, vs, ds, ps, hin, hval, h => by
    obtain ⟨v, vs', d, ds', p, q, h1, h2, rfl, h3, h4⟩ := trodAll_cons h
    subst h1 h2
    obtain ⟨g1, rows, g2, g3⟩ := args_AR hT (fun t ht => hin t (List.mem_cons_of_mem _ ht)) (fun j t v hj hv => hval (j + 1) t v (by simpa using hj) (by simpa using hv)) h4
    obtain ⟨ds, g4, g5⟩ := arg_AR hT (hin t List.mem_cons_self) (hval 0 t v rfl rfl) h3
    exact ⟨by simp [g1], ds :: rows, ⟨ds, rows, rfl, g4, g2⟩, by rw [argsAV, AL]; exact ⟨v, vs', rfl, g5, g3⟩⟩
/-- Reading the arguments again. -/
theorem again_trod {W W' : World} (hl : laidOutB P = true) (hb : Below W.heap.size W W') {sp : Nat → Bool} : ∀ {ts : List TypeId} {vs : List Value} {ds : List (DataW H)} {ps : List MemPlace}, (∀ t ∈ ts, P.readableRec t = true ∧ t < P.types.size) →
    DataW.TrodAll enc P W 0 (fun _ => true) true ts vs ds ps → (∀ x ∈ ps, x.block < W.heap.size) → (∀ x ∈ ps, sp x.block = true) → DataW.TrodAll enc P W' 0 sp true ts vs ds ps
  | [], vs, ds, ps, _, h, _, _ => by
    obtain ⟨rfl, rfl, rfl⟩ := trodAll_nil h
    exact trodAll_mk0
  | t :: ts, vs, ds, ps, hin, h, hlt, hsp => by
    obtain ⟨v, vs', d, ds', p, q, h1, h2, rfl, h3, h4⟩ := trodAll_cons h
    subst h1 h2
    obtain ⟨g1, g2⟩ := hin t List.mem_cons_self
    exact trodAll_cons_mk (WideElems.Trod_stays hl g1 g2 h3 (fun x hx => hb.same (hlt x (List.mem_append_left _ hx))) (fun x hx => hsp x (List.mem_append_left _ hx)))
      (again_trod hl hb (fun t ht => hin t (List.mem_cons_of_mem _ ht)) h4 (fun x hx => hlt x (List.mem_append_right _ hx)) (fun x hx => hsp x (List.mem_append_right _ hx)))
def typesOK (P : Program) (Ts : List TypeId) (ts : List TypeId) : Bool := ts.all fun t => membN t Ts && P.readableRec t && Nat.ble (t + 1) P.types.size
theorem law_post {f : Func} {s : ChangeSpec} {W W' : World} {args : Array Value} {ds gs : List (DataW H)} {before : List MemPlace} {tb : TypeId} (hl : laidOutB P = true) (hty : typesOK P Ts f.params.toList = true) (hvar : s.vars = [])
    (hrt : f.resultTypes = #[tb]) (hb : P.underlying tb = some .bool) (hs : s.fn H (ds ++ gs) = { results := [.lit (.bool true)], args := ds })
    (hW : DataW.Whole enc P f.params.toList s.vars false W args.toList ds gs before) (hg : Below W.heap.size W W') : s.post enc P f false true false false W args (.bool true) W' := by
  have hlt := hW.lt
  have hW' := hW
  obtain ⟨p, q, hA, hV, hpq, hz, hn⟩ := hW
  rw [hvar] at hV
  obtain ⟨rfl, rfl⟩ : gs = [] ∧ q = [] := by
    cases gs with
    | nil => exact ⟨rfl, hV⟩
    | cons g gs => exact hV.elim
  rw [List.append_nil] at hpq
  subst hpq
  have hin : ∀ t ∈ f.params.toList, P.readableRec t = true ∧ t < P.types.size := fun t ht => by
    have := List.all_eq_true.1 hty t ht
    simp only [Bool.and_eq_true] at this
    have h1 := Nat.le_of_ble_eq_true this.2
    exact ⟨this.1.2, h1⟩
  have hargs : ∀ sp : Nat → Bool, (∀ x ∈ before, sp x.block = true) → DataW.TrodAll enc P W' 0 sp true f.params.toList args.toList ds before := fun sp hsp => again_trod hl hg hin hA hlt hsp
  have hres : ∀ (b : Nat) (sp : Nat → Bool) (hd : Bool), DataW.TrodAll enc P W' b sp hd f.resultTypes.toList ((Value.bool true).resultList f.resultTypes.size) [.lit (.bool true)] [] := fun b sp hd => by
    rw [hrt]
    exact trodAll_cons_mk (shut_bool hb true) trodAll_mk0
  have hold : ∀ p ∈ before, (fun b => decide (b < W.heap.size)) p.block = true := fun p hp => by simpa using hlt p hp
  have hargs2 : ∀ sp : Nat → Bool, (∀ x ∈ before, sp x.block = true) → DataW.TrodAll enc P W' 0 sp true f.params.toList args.toList (s.fn H (ds ++ [])).args before := by rw [hs]; exact hargs
  have hres2 : ∀ (b : Nat) (sp : Nat → Bool) (hd : Bool), DataW.TrodAll enc P W' b sp hd f.resultTypes.toList ((Value.bool true).resultList f.resultTypes.size) (s.fn H (ds ++ [])).results [] := by rw [hs]; exact hres
  have hvars2 : ∀ sp : Nat → Bool, DataW.TrodVars enc P W' sp s.vars (s.fn H (ds ++ [])).vars [] := by rw [hs, hvar]; intro sp; rfl
  refine ⟨ds, [], before, [], before, [], hW', hres2 _ _ _, hargs2 _ hold, hvars2 _, World.keptBut_mono (fun p hp => ⟨hp, .inr (.inl hp)⟩) (hg.frame (· ∈ before)), fun _ => ?_⟩
  refine ⟨ok_one hrt rfl (okWide_bool_mk hb true), _, _, ([] ++ before) ++ [], ⟨[] ++ before, [], trodAll_append (hargs2 _ (fun _ _ => rfl)) (hres2 _ _ _), hvars2 _, rfl, ?_, ?_⟩, ?_⟩
  · intro b off hp
    have hp' : MemPlace.cell b off ∈ before := by simpa using hp
    have hbl := hlt _ hp'
    rw [hg.frozen (p := ⟨b, off, none⟩) hbl]
    exact hz b off hp'
  · intro ha; cases ha
  · intro p hp _
    simpa using hp
theorem gok_none {P : Program} {X : Nat → Prop} {β : Names} {W : World} (h : P.globals.size = 0) : GOK P X β W := fun p hp g hg => by
  simp [Program.globalNamed, h] at hg
/-- From the contract of a law, for all that has the types of its parameters, to what its row asks. -/
theorem law_contract {f : FuncId} {fn : Func} {s : ChangeSpec} {tb : TypeId} (hT : closedT P Ts = true) (hl : laidOutB P = true) (hty : typesOK P Ts fn.params.toList = true) (hvar : s.vars = []) (hrt : fn.resultTypes = #[tb]) (hb : P.underlying tb = some .bool)
    (hcon : ∀ rows, HasAll P fn.params.toList rows → Con P noMv f (argsAV P fn.params.toList rows) [] (fun r h => r = bool true ∧ h = []))
    {W : World} {base : Nat} {args : Array Value} {ds gs : List (DataW H)} {before : List MemPlace} (hs : ds.length = fn.params.toList.length → s.fn H ds = { results := [.lit (.bool true)], args := ds })
    (hval : ∀ (j : Nat) t v, fn.params[j]? = some t → args[j]? = some v → Value.okWide P W .any base t v)
    (hW : DataW.Whole enc P fn.params.toList s.vars false W args.toList ds gs before) (hgl : GOK P (fun _ => False) noN W) :
    Calls P f args W fun e W' => ∃ v, e = .returned v ∧ s.post enc P fn false true false false W args v W' := by
  have hW' := hW
  obtain ⟨p, q, hA, hV, hpq, hz, hn⟩ := hW
  rw [hvar] at hV
  have hgs : gs = [] := by
    cases gs with
    | nil => rfl
    | cons g gs => exact hV.elim
  subst hgs
  obtain ⟨h1, rows, h2, h3⟩ := args_AR hT (fun t ht => by
    have := List.all_eq_true.1 hty t ht
    simp only [Bool.and_eq_true] at this
    exact membN_iff.1 this.1.1) (fun j t v hj hv => hval j t v (by simpa using hj) (by simpa using hv)) hA
  have h4 := hcon rows h2 (fun _ => False) noN W args.toList (fun _ h => h.elim) (fun e b h => by cases h) (fun e j b h => by cases h) ⟨fun e e' b h => (by cases h), fun e b h => (by cases h), fun e b h => (by cases h), fun e j b h => (by cases h), fun e j e' j' b h => (by cases h), fun e j b h => (by cases h), fun e ob h => (by simp [get] at h)⟩ h3 hgl
  refine h4.mono ?_
  rintro e W' ⟨v, r, h', β', rfl, ⟨rfl, rfl⟩, hr, _, F, _⟩
  rw [AR, DR] at hr
  subst hr
  exact ⟨_, rfl, law_post hl hty hvar hrt hb (by rw [List.append_nil]; exact hs h1) hW' ⟨F.os, F.tape, F.output, F.size, fun b hb' => F.same b hb' noN_own⟩⟩
end
end Go.AM

namespace Go.AM
section
variable {C : Cx} {st : St}
theorem q_as {x : XOp} {r r' : AV} (h : QStep C st x r) (e : r = r') : QStep C st x r' := e ▸ h
theorem q_add {x y : XA} {a b : Int} (hx : evA st.sl x = some (int a)) (hy : evA st.sl y = some (int b)) (h : -9223372036854775808 ≤ a + b ∧ a + b ≤ 9223372036854775807) :
    QStep C st (.bin .add x y) (int (a + b)) := q_as (q_ibin hx hy rfl) (wi h.1 h.2)
theorem q_sub {x y : XA} {a b : Int} (hx : evA st.sl x = some (int a)) (hy : evA st.sl y = some (int b)) (h : -9223372036854775808 ≤ a - b ∧ a - b ≤ 9223372036854775807) :
    QStep C st (.bin .sub x y) (int (a - b)) := q_as (q_ibin hx hy rfl) (wi h.1 h.2)
theorem q_mod {x y : XA} {a b : Int} (hx : evA st.sl x = some (int a)) (hy : evA st.sl y = some (int b)) (h0 : 0 ≤ a) (h1 : 0 < b) :
    QStep C st (.bin .rem x y) (int (a % b)) := q_as (q_idiv hx hy rfl (by omega)) (by rw [Int.tmod_eq_emod_of_nonneg h0])
theorem q_mx {big : Bool} {x y : XA} {k : IntKind} {a b : Int} (hx : evA st.sl x = some (.d (.int k a))) (hy : evA st.sl y = some (.d (.int k b))) :
    QStep C st (.mx big x y) (.d (.int k (if (if big then b > a else b < a) then b else a))) := by
  intro o hf ac w β S
  simp only [fits] at hf
  split at hf
  · rename_i bi args ts hop
    split at hf
    · rename_i p q h1
      simp only [Bool.and_eq_true] at hf
      obtain ⟨⟨h2, h3⟩, h4⟩ := hf
      have h3 := AR_of_fitA S h3 hx
      have h4 := AR_of_fitA S h4 hy
      rw [AR, DR] at h3 h4
      have hargs := list2 h1
      subst hargs
      refine ⟨_, by rw [AR, DR], fun w' _ => ?_⟩
      cases big <;> cases bi <;> simp at h2 <;>
        simp [execOp, hop, resolve, invoke, builtin, Builtin.max_, Builtin.min_, Builtin.max2, Builtin.min2, h3, h4]
    · cases hf
  · cases hf
/-- By an integer that is not below zero. -/
theorem q_ixI {sz : Nat} {x i : XA} {k : IntKind} {n : Int} {rows : List (List D)} {row : List D} (hx : evA st.sl x = some (.d (.sl sz rows))) (hi : evA st.sl i = some (.d (.int k n))) (h0 : 0 ≤ n)
    (hr : rows[n.toNat]? = some row) : QStep C st (.iadr sz x i) (.d (.ip row)) := q_iadr hx hi h0 hr
theorem q_ixoI {sz : Nat} {x i : XA} {k : IntKind} {n : Int} {e len : Nat} (hx : evA st.sl x = some (.osl e sz 0 len)) (hi : evA st.sl i = some (.d (.int k n))) (h0 : 0 ≤ n)
    (hr : n.toNat < len) : QStep C st (.iadr sz x i) (.rptr e sz n.toNat 0) := by
  have := q_iadr_osl (C := C) hx hi h0 (by omega)
  simpa using this
end
section
variable {C : Cx} {sl : List (Nat × AV)} {own : List (Nat × OB)}
theorem zeroCells_get (z : Array Value) (n p : Nat) (hp : p < n * z.size) : (Builtin.zeroCells z n)[p]? = some (z[p % z.size]!) := by
  unfold Builtin.zeroCells
  simp [hp]
theorem e_clr {d : Option Nat} {sz e s len : Nat} {zs : List K} {x : XA} {row : List D} {rs : List (List D)} (hx : evA sl x = some (.osl e sz s len)) (he : get own e = some (.rows sz rs)) (hl : s + len ≤ rs.length) (hz : zrow zs = some row) :
    EStep C ⟨sl, own⟩ d (.clr sz zs x) (putR d (.tup []) ⟨sl, (e, .rows sz (rs.take s ++ List.replicate len row ++ rs.drop (s + len))) :: own⟩) := by
  intro o ho hd hf a w β S
  simp only [fits] at hf
  split at hf
  · rename_i args ts hop
    split at hf
    · rename_i p t h1 h2
      simp only [Bool.and_eq_true] at hf
      obtain ⟨h3, h4⟩ := hf
      split at h3
      · rename_i el hel
        simp only [Bool.and_eq_true] at h3
        obtain ⟨h3, h5⟩ := h3
        obtain ⟨ti, z, z1, z2, z3, z4⟩ := zeroIs_some h5
        have hargs := list1 h1
        subst hargs
        have hv := AR_of_fitA S h4 hx
        rw [AR] at hv
        obtain ⟨base, cap, g3, g4, g5⟩ := hv
        have hts : ts[0]? = some t := by
          have : ts.toList[0]? = some t := by rw [h2]; rfl
          simpa using this
        have hzv : (zeroValue el).run C.P w = .ok z w := by simp [zeroValue, typeInfo, z1, z2]
        have hAL := fitZ_AL (X := C.X) (β := β) (w := w) z3
        have hrow : DL w (okf C.X β) row z.cells.toList := toDs_DL hz hAL
        have hzl : z.cells.size = zs.length := by
          have := AL_len hAL; simpa using this
        have hrl : row.length = zs.length := by have := toDs_len hz; simpa using this
        have hsz : zs.length = sz := by
          unfold szIs at h3
          rw [z1] at h3
          have := Nat.eq_of_beq_eq_true h3
          omega
        have hfin : ∀ w' β', SatB C ⟨sl, (e, .rows sz (rs.take s ++ List.replicate len row ++ rs.drop (s + len))) :: own⟩ a w' β' → (execOp a.eval o).run C.P w = .ok (.value (.tuple #[])) w' → ∃ r w' β', (execOp a.eval o).run C.P w = .ok r w' ∧
            ((r = .skip ∧ SatB C (putR d (.tup []) ⟨sl, (e, .rows sz (rs.take s ++ List.replicate len row ++ rs.drop (s + len))) :: own⟩) (a.put d undef) w' β') ∨ ∃ v, r = .value v ∧ SatB C (putR d (.tup []) ⟨sl, (e, .rows sz (rs.take s ++ List.replicate len row ++ rs.drop (s + len))) :: own⟩) (a.put d v) w' β') := by
          intro w' β' S1 hrun
          exact ⟨_, w', β', hrun, .inr ⟨_, rfl, S1.putR hd (by rw [AR]; exact ⟨#[], rfl, by simp [AL]⟩)⟩⟩
        rcases Nat.eq_zero_or_pos len with hlen | hlen
        · subst hlen
          refine hfin w β ?_ ?_
          · have e1 : rs.take s ++ List.replicate 0 row ++ rs.drop (s + 0) = rs := by simp
            rw [e1]
            exact S.le (fun k x hx => hx) (fun k ob hk => by
              rw [get_cons] at hk
              split at hk
              · rename_i hke; subst hke; cases hk; exact he
              · exact hk)
          · simp only [execOp, hop, resolve, List.map_toArray, List.map_cons, List.map_nil, Sem.run_bind, Sem.run_pure, Result.andThen_ok, invoke, builtin, Builtin.clear_, hts, List.getElem?_toArray, List.getElem?_cons_zero,
              run_underlying (sliceOf_some hel), g3]
            cases base <;> simp
        · rcases g5 with g5 | ⟨b, c, ty, fr, g6, g7, g8, g9⟩
          · omega
          · subst g7
            have hob0 := S.hr.own e _ he
            rw [g6] at hob0
            obtain ⟨c0, ty0, fr0, q1, q2, q3, q4⟩ := hob0
            rw [g8] at q1; cases q1
            have hm1 : (s + len) * sz ≤ c.size := Nat.le_trans (Nat.mul_le_mul_right _ (by omega)) g9
            rw [Nat.add_mul] at hm1
            have hzc : (Builtin.zeroCells z.cells len).toList.length = len * sz := by
              simp [Builtin.zeroCells, hzl, hsz]
            have hones : ∀ u ∈ (Builtin.zeroCells z.cells len).toList, u.oneCell' = true := by
              intro u hu
              simp only [Builtin.zeroCells] at hu
              have hrr : RowsR C.X β w sz [row] z.cells.toList.toArray := RowsR_one hrow (by omega)
              have h1' := RowsR_ones hrr (by simp; omega)
              simp only [Array.toList_map, List.mem_map] at hu
              obtain ⟨q, hq, rfl⟩ := hu
              apply h1'
              have hzs : 0 < z.cells.size := by
                rcases Nat.eq_zero_or_pos z.cells.size with h0 | h0
                · rw [h0] at hq; simp at hq
                · exact h0
              have hlt : q % z.cells.size < z.cells.size := Nat.mod_lt _ hzs
              rw [getElem!_pos z.cells _ hlt]
              exact Array.getElem_mem_toList hlt
            have hst := storeCells_run (P := C.P) (o := s * sz) (vs := (Builtin.zeroCells z.cells len).toList) g8 q2.1 (by rw [hzc]; exact hm1) hones
            obtain ⟨w1, w2, w3, w4, w5, w6⟩ := setCells_world b (Builtin.zeroCells z.cells len).toList (s * sz) w
            refine hfin (w.setCells b (s * sz) (Builtin.zeroCells z.cells len).toList) β ?_ (by
              simp only [execOp, hop, resolve, List.map_toArray, List.map_cons, List.map_nil, Sem.run_bind, Sem.run_pure, Result.andThen_ok, invoke, builtin, Builtin.clear_, hts, List.getElem?_toArray, List.getElem?_cons_zero,
                run_underlying (sliceOf_some hel), g3]
              have : ∃ m, len = m + 1 := ⟨len - 1, by omega⟩
              obtain ⟨m, rfl⟩ := this
              simp only [hzv, Sem.run_bind, Result.andThen_ok, hst, Sem.run_pure])
            have hcc : ∀ c' ty' fr', w.heap[b]? = some (.cells c' ty' fr') → ∃ c'' ty'' fr'', (w.setCells b (s * sz) (Builtin.zeroCells z.cells len).toList).heap[b]? = some (.cells c'' ty'' fr'') ∧ c''.size = c'.size := fun c' ty' fr' h =>
              ⟨_, _, _, w6 c' ty' fr' h, by simp [setL_length]⟩
            have T := Tr.store (X := C.X) g6 w4 w5 hcc
            have hlc : (c.toList.take (s * sz)).length = s * sz := by simp; omega
            have hset : setL c.toList (s * sz) (Builtin.zeroCells z.cells len).toList = c.toList.take (s * sz) ++ (Builtin.zeroCells z.cells len).toList ++ c.toList.drop ((s + len) * sz) := by
              have := setL_append (c.toList.take (s * sz)) (c.toList.drop (s * sz)) (Builtin.zeroCells z.cells len).toList (by rw [hzc]; simp; omega)
              rw [List.take_append_drop, hlc, hzc, List.drop_drop, ← Nat.add_mul] at this
              exact this
            have q4' : RowsR C.X β w sz rs c.toList.toArray := by simpa using q4
            have hRR : RowsR C.X β w sz (rs.take s ++ List.replicate len row ++ rs.drop (s + len)) (c.toList.take (s * sz) ++ (Builtin.zeroCells z.cells len).toList ++ c.toList.drop ((s + len) * sz)).toArray := by
              have r1 : RowsR C.X β w sz (rs.take s) (c.toList.take (s * sz)).toArray := RowsR_take q4 s
              have r2 : RowsR C.X β w sz (List.replicate len row) (Builtin.zeroCells z.cells len).toList.toArray :=
                RowsR_zero (n := len) hrow (by omega) (fun p hp => by simpa using zeroCells_get z.cells len p (by rw [hzl, hsz]; exact hp)) len (Nat.le_refl _)
              have r3 := RowsR_drop q4' (s + len)
              have e2 : (c.toList.take (s * sz)).length = (rs.take s).length * sz := by
                rw [hlc, List.length_take, Nat.min_eq_left (by omega)]
              have e3 : (c.toList.take (s * sz) ++ (Builtin.zeroCells z.cells len).toList).length = (rs.take s ++ List.replicate len row).length * sz := by
                rw [List.length_append, List.length_append, hlc, hzc, List.length_take, List.length_replicate, Nat.min_eq_left (by omega : s ≤ rs.length), Nat.add_mul]
              exact RowsR_split (RowsR_split r1 e2 r2) e3 r3
            have hob : OBR C.X β (w.setCells b (s * sz) (Builtin.zeroCells z.cells len).toList) (.rows sz (rs.take s ++ List.replicate len row ++ rs.drop (s + len))) (some b) e := by
              refine ⟨_, ty, fr, w6 c ty fr g8, by simpa [setL_length] using q2, ?_, ?_⟩
              · have : (rs.take s ++ List.replicate len row ++ rs.drop (s + len)).length = rs.length := by simp; omega
                rw [this]; simpa [setL_length] using q3
              · rw [hset]; exact hRR.mono T.keep
            exact S.store g6 ⟨w1, w2, w3⟩ w4 w5 hcc hob
      · cases h3
    · cases hf
  · cases hf
/-- Of an own block's rows the first ones alone are told. -/
theorem wk_rows {C : Cx} {sl : List (Nat × AV)} {own : List (Nat × OB)} (e : Nat) {sz : Nat} {rs rs' : List (List D)} (he : get own e = some (.rows sz rs)) (h : ∃ more, rs = rs' ++ more) :
    Wk C ⟨sl, own⟩ ⟨sl, (e, .rows sz rs') :: own⟩ := by
  rintro a w ⟨β, S⟩
  obtain ⟨more, rfl⟩ := h
  refine ⟨β, { S with hr := { S.hr with own := ?_ } }⟩
  intro k ob hk
  rw [get_cons] at hk
  split at hk
  · rename_i hke; subst hke; cases hk
    have hob := S.hr.own _ _ he
    cases hb : β e with
    | none => rw [hb] at hob; simp only [OBR, List.append_eq_nil_iff] at hob; exact hob.1
    | some b =>
      rw [hb] at hob
      obtain ⟨c, ty, fr, h1, h2, h3, h4⟩ := hob
      refine ⟨c, ty, fr, h1, h2, Nat.le_trans (Nat.mul_le_mul_right _ (by simp)) h3, ?_⟩
      have := RowsR_take h4 rs'.length
      rw [List.take_left] at this
      intro i r hi
      obtain ⟨g1, g2⟩ := this i r hi
      refine ⟨g1, fun j x hj => ?_⟩
      obtain ⟨v, g3, g4⟩ := g2 j x hj
      refine ⟨v, ?_, g4⟩
      simp only [List.getElem?_toArray, List.getElem?_take] at g3
      split at g3
      · simpa using g3
      · cases g3
  · exact S.hr.own k ob hk
end
end Go.AM

namespace Go.AM
theorem SatB.le2 {C : Cx} {st st' : St} {a : Act} {w : World} {β : Names} (S : SatB C st' a w β) (h1 : ∀ t x, get st.sl t = some x → x = .dead ∨ get st'.sl t = some x) (h2 : ∀ e ob, get st.own e = some ob → get st'.own e = some ob) : SatB C st a w β where
  tsize := S.tsize
  df := S.df
  slots := fun t x hx => by
    rcases h1 t x hx with rfl | h
    · rw [AR]; trivial
    · exact S.slots t x h
  hr := { S.hr with own := fun e ob h => S.hr.own e ob (h2 e ob h) }
  mine := S.mine
  stay := S.stay
  fr := S.fr
  xlt := S.xlt
theorem wk_le2 {C : Cx} {st st' : St} (h1 : ∀ t x, get st.sl t = some x → x = .dead ∨ get st'.sl t = some x) (h2 : ∀ e ob, get st.own e = some ob → get st'.own e = some ob) : Wk C st' st :=
  fun _ _ ⟨β, S⟩ => ⟨β, S.le2 h1 h2⟩
/-- A region that draws its order: a family of states, one for each set of operations that is done. -/
theorem cx_drawG {C : Cx} {Kn Kr : Kont} {Ke : List (Nat × Kont)} {deps : List (List Nat)} {hd tl : List XI} {st0 : St} (stX : (Nat → Bool) → St)
    (hL : ∀ L L', (∀ j, j < hd.length → L j = L' j) → stX L = stX L') (h0 : Wk C st0 (stX (fun _ => false)))
    (hs : ∀ i x, hd[i]? = some x → ∀ L : Nat → Bool, L i = false → (∀ j, depOf deps i j = true → L j = true) → (∀ j m, L j = true → depOf deps j m = true → L m = true) →
      AXI C false [] [x] (stX L) (fun st' => Wk C st' (stX (fun j => Nat.beq i j || L j))))
    (ht : AXI C false [] tl (stX (fun _ => true)) Kn) : AX C (.drawE deps hd tl) st0 Kn Ke Kr := by
  intro c hf a w S
  simp only [fitsC] at hf
  split at hf
  · rename_i id ops
    unfold fitsDE at hf
    split at hf
    · rename_i n hn
      simp only [Bool.and_eq_true] at hf
      obtain ⟨⟨⟨f1, f2⟩, f3⟩, f4⟩ := hf
      have f1 := Nat.eq_of_beq_eq_true f1
      have f2 := sizeIs_eq f2
      have hns : n ≤ ops.size := fitIs_le _ _ _ _ _ _ _ _ f2
      refine wp_region_any f3 ?_
      have hfin : ∀ (m : Nat) (listed : Array Bool) (a : Act) (w : World), todo listed = m → Closed deps ops listed → (∀ k, n ≤ k → listed.getD k false = false) → Sat C (stX (fun j => listed.getD j false)) a w →
          (∀ j, j < n → listed.getD j false = true) → wpAny C.P .any ops (lift C Kn Ke Kr) m listed a w := by
        intro m listed a w hm hc hk S hall
        have hl : ∀ j, listed.getD j false = true ↔ j < n := fun j => ⟨fun h => by
          rcases Nat.lt_or_ge j n with h' | h'
          · exact h'
          · exact absurd h (by rw [hk j h']; simp), hall j⟩
        have ht' := todo_first listed.toList n (by rw [Array.length_toList, hc.1]; exact hns) (fun j => by have := hl j; simpa using this)
        have hm' : ops.size - n = m := by
          have h1 : listed.toList.countP (fun b => !b) = m := hm
          rw [h1, Array.length_toList, hc.1] at ht'; omega
        refine wpAny_forced f4 m n listed a w (Nat.le_refl _) (by omega) hc hl ?_
        have := ht ops _ (Rn.text C ops (lift C Kn Ke Kr)) 0 n ops.size f2 [] a w ?_ (fun g hg => by cases hg) (fun st' a' w' _ hK S' _ => ⟨st', hK, S'⟩)
        · rw [hm'] at this; simpa using this
        · rwa [hL (fun _ => true) (fun j => listed.getD j false) (fun j hj => (hall j (by omega)).symm)]
      have hQ : ∀ (m : Nat) (listed : Array Bool) (a : Act) (w : World), todo listed = m → Closed deps ops listed → (∀ k, n ≤ k → listed.getD k false = false) → Sat C (stX (fun j => listed.getD j false)) a w →
          wpAny C.P .any ops (lift C Kn Ke Kr) m listed a w := by
        intro m
        induction m with
        | zero =>
          intro listed a w hm hc hk S
          by_cases hall : ∀ j, j < n → listed.getD j false = true
          · exact hfin 0 listed a w hm hc hk S hall
          · exfalso
            simp only [Classical.not_forall] at hall
            obtain ⟨j, hj, hjl⟩ := hall
            have hjs : j < listed.size := by rw [hc.1]; omega
            have : listed[j]? = some false := by
              have h1 : listed[j]? = some listed[j] := by simp [hjs]
              have h2 : listed.getD j false = listed[j] := by simp [hjs]
              rw [h1]
              rw [h2] at hjl
              simp at hjl
              rw [hjl]
            have := todo_set this
            omega
        | succ m ih =>
          intro listed a w hm hc hk S
          by_cases hall : ∀ j, j < n → listed.getD j false = true
          · exact hfin (m + 1) listed a w hm hc hk S hall
          · have hall' : ∃ j, j < n ∧ listed.getD j false = false := by
              simp only [Classical.not_forall] at hall
              obtain ⟨j, hj, hjl⟩ := hall
              exact ⟨j, hj, by simpa using hjl⟩
            have hready : ∀ i, i ∈ Region.ready .any ops listed → i < n := fun i hi => by
              rcases Nat.lt_or_ge i n with h | h
              · exact h
              · obtain ⟨j, hj, hjl⟩ := hall'
                obtain ⟨_, o, ho, _⟩ := mem_ready.1 hi
                obtain ⟨ds, h4, _, _, h5⟩ := depsOK_spec f4 ho
                have := ready_deps f4 hc hi j (by unfold depOf; rw [h4]; exact membN_iff.2 (h5 h j (by omega)))
                rw [hjl] at this; cases this
            refine ⟨fun h0 => ?_, fun i hi => ?_⟩
            · exfalso
              have least : ∀ (p : Nat → Prop), (∃ n, p n) → ∃ n, p n ∧ ∀ m, p m → n ≤ m := by
                intro p ⟨n, hn⟩
                induction n using Nat.strongRecOn with
                | _ n ih =>
                  by_cases hm : ∃ m, m < n ∧ p m
                  · obtain ⟨m, h1, h2⟩ := hm; exact ih m h1 h2
                  · exact ⟨n, hn, fun m hpm => by
                      rcases Nat.lt_or_ge m n with h | h
                      · exact absurd ⟨m, h, hpm⟩ hm
                      · exact h⟩
              obtain ⟨k, ⟨k1, k2⟩, k3⟩ := least (fun j => j < n ∧ listed.getD j false = false) hall'
              have hks : k < ops.size := by omega
              have hkr : k ∈ Region.ready .any ops listed := by
                refine mem_ready.2 ⟨?_, ops[k], by simp [hks], fun e he hbd => ?_⟩
                · have : k < listed.size := by rw [hc.1]; exact hks
                  simp [this] at k2 ⊢; exact k2
                · obtain ⟨_, _, h2, _⟩ := depsOK_spec f4 (i := k) (o := ops[k]) (by simp [hks])
                  have := h2 e he hbd
                  cases hh : listed.getD e.on false with
                  | true => rfl
                  | false => have := k3 e.on ⟨by omega, hh⟩; omega
              rw [h0] at hkr; cases hkr
            · have hin := hready i hi
              have his : i < listed.size := by rw [hc.1]; omega
              have hil : listed.getD i false = false := by
                have := (mem_ready.1 hi).1
                simp [his] at this ⊢; exact this
              have hil' : listed[i]? = some false := by
                have h1 : listed[i]? = some listed[i] := by simp [his]
                have h2 : listed.getD i false = listed[i] := by simp [his]
                rw [h1, ← h2, hil]
              obtain ⟨x, hx⟩ : ∃ x, hd[i]? = some x := ⟨hd[i]'(by omega), by simp [show i < hd.length from by omega]⟩
              have hfit := fitIs_each (xs := hd) (i := 0) (by rw [hn, f1, Nat.zero_add]) i x hx
              rw [Nat.zero_add] at hfit
              have hax := hs i x hx (fun j => listed.getD j false) hil (ready_deps f4 hc hi) (fun j m h1 h2 => hc.2 j m h1 h2)
              let Qx : Exit → Act → World → Prop := fun e a w => match e with
                | .normal => wpAny C.P .any ops (lift C Kn Ke Kr) m (listed.setIfInBounds i true) a w
                | e => lift C Kn Ke Kr e a w
              have hrun := hax ops _ (Rn.text C ops Qx) 0 i (i + 1) hfit [] a w S (fun g hg => by cases hg) (fun st' a' w' _ hK S' _ => by
                show wpAny C.P .any ops (lift C Kn Ke Kr) m (listed.setIfInBounds i true) a' w'
                refine ih _ a' w' (by have := todo_set hil'; omega) (hc.step f4 hi) (fun k hk' => ?_) ?_
                · rw [getD_set his, hk k hk', Bool.or_false]
                  cases hb : Nat.beq i k with
                  | false => rfl
                  | true => have := Nat.eq_of_beq_eq_true hb; omega
                · have := hK a' w' S'
                  have e : (fun j => (listed.setIfInBounds i true).getD j false) = fun j => Nat.beq i j || listed.getD j false := by
                    funext j; exact getD_set his
                  rw [e]; exact this)
              rw [show i + 1 - i = 1 from by omega, List.append_nil, show List.range' i 1 = [i] from rfl, Go.wpOps_cons] at hrun
              refine wpOp_congr (Q := Qx) (fun e a w he hh => ?_) hrun
              cases e with
              | normal => exact absurd rfl he
              | _ => exact hh
      have ht0 : todo (Array.replicate ops.size false) = ops.size := by
        have key : ∀ n : Nat, (List.replicate n false).countP (fun b => !b) = n := by
          intro n
          induction n with
          | zero => rfl
          | succ n ih => rw [List.replicate_succ, List.countP_cons, ih]; rfl
        unfold todo; rw [Array.toList_replicate]; exact key _
      have hz : ∀ j, (Array.replicate ops.size false).getD j false = false := fun j => by
        simp [Array.getElem?_replicate]
        split <;> simp
      refine hQ ops.size _ a _ ht0 ⟨by simp, fun i j hi => ?_⟩ (fun k _ => hz k) ?_
      · rw [hz] at hi; cases hi
      · have e : (fun j => (Array.replicate ops.size false).getD j false) = fun _ => false := by funext j; exact hz j
        rw [e]; exact h0 _ _ (S.ext (Ext.drew w))
    · cases hf
  · cases hf
/-- Slots that do not hold on are dead, but for 'd'. -/
def fltS (q : AV → Bool) (d : Nat) : List (Nat × AV) → List (Nat × AV)
  | [] => []
  | (t, y) :: r => (t, bif Nat.beq t d || q y then y else .dead) :: fltS q d r
theorem get_fltS {q : AV → Bool} {d : Nat} : ∀ (l : List (Nat × AV)) (t : Nat), get (fltS q d l) t = (get l t).map (fun y => bif Nat.beq t d || q y then y else .dead)
  | [], _ => rfl
  | (k, y) :: r, t => by
    rw [fltS, get_cons, get_cons]
    split
    · rename_i h; subst h; rfl
    · exact get_fltS r t
theorem get_flt {q : AV → Bool} {d : Nat} {l : List (Nat × AV)} {t : Nat} {x : AV} (h : get (fltS q d l) t = some x) : x = .dead ∨ (get l t = some x ∧ (t = d ∨ q x = true)) := by
  rw [get_fltS] at h
  cases hg : get l t with
  | none => rw [hg] at h; cases h
  | some y =>
    rw [hg, Option.map_some, Option.some.injEq] at h
    cases hb : (Nat.beq t d || q y) with
    | false => rw [hb] at h; exact .inl h.symm
    | true =>
      rw [hb, cond_true] at h
      subst h
      refine .inr ⟨rfl, ?_⟩
      rcases Bool.or_eq_true _ _ ▸ hb with h | h
      · exact .inl (Nat.eq_of_beq_eq_true h)
      · exact .inr h
theorem flt_get {q : AV → Bool} {d : Nat} {l : List (Nat × AV)} {t : Nat} {x : AV} (h : get l t = some x) (hq : t = d ∨ q x = true) : get (fltS q d l) t = some x := by
  rw [get_fltS, h, Option.map_some]
  have : (Nat.beq t d || q x) = true := by
    rcases hq with rfl | hq
    · simp
    · rw [hq, Bool.or_true]
  rw [this]; rfl
theorem nrS_flt {n : Nat} {q : AV → Bool} {d : Nat} : ∀ {l : List (Nat × AV)}, nrS n l = true → nrS n (fltS q d l) = true
  | [], _ => rfl
  | (k, y) :: r, h => by
    rw [nrS, Bool.and_eq_true] at h
    rw [fltS, nrS, Bool.and_eq_true]
    refine ⟨?_, nrS_flt h.2⟩
    cases (Nat.beq k d || q y) with
    | true => exact h.1
    | false => rfl
theorem nrOs_pgOs {n : Nat} {p : Nat → Bool} : ∀ {l : List (Nat × OB)}, nrOs n l = true → nrOs n (pgOs p l) = true
  | [], _ => rfl
  | (k, ob) :: r, h => by
    rw [nrOs, Bool.and_eq_true] at h
    rw [pgOs, nrOs, Bool.and_eq_true]
    exact ⟨nrO_drop p h.1, nrOs_pgOs h.2⟩
/-- The operation that turns own blocks: 'p' tells the names to which references die, 'q' what holds on, 'hk' what own blocks hold behind it, 'FN' which of these are new. -/
def LocL (C : Cx) (p : Nat → Bool) (q : AV → Bool) (FN : List Nat) (slm : List (Nat × AV)) (ownm : List (Nat × OB)) (x : XI) (d : Nat) (r : AV) (hk : List (Nat × OB)) : Prop :=
  ∀ sl own, (∀ t y, get slm t = some y → get sl t = some y) → (∀ e ob, get ownm e = some ob → get own e = some ob) → freeN sl own FN = true →
    AXI C false [] [x] ⟨sl, own⟩ (fun st' => (r = .dead ∨ get st'.sl d = some r) ∧ (∀ t y, t ≠ d → get sl t = some y → q y = true → get st'.sl t = some y) ∧
      (∀ e ob, get hk e = some ob → get st'.own e = some ob) ∧ (∀ e ob, get hk e = none → get own e = some ob → get st'.own e = some (pgO p ob)))
def hkv (bk : Bool) (hk : List (Nat × OB)) : List (Nat × OB) := bif bk then hk else []
def StepG (C : Cx) (k dk : Nat) (p : Nat → Bool) (q : AV → Bool) (FN : List Nat) (hk : List (Nat × OB)) (bk ki : Bool) (i : Nat) (slv : List (Nat × AV)) (ownv : List (Nat × OB)) (ts bd : List Nat) (x : XI) (dl : Dl) : Prop :=
  (Nat.beq i k = true ∧ dl.h = [] ∧ Nat.beq dl.d dk = true ∧ LocL C p q FN slv ownv x dl.d dl.r hk) ∨
  (Nat.beq i k = false ∧ ∃ slm, keepK ts slv = some slm ∧ (ki = true ∨ (fltS q dk slm = slm ∧ pgOs p (outO bd (hkv bk hk ++ ownv)) = outO bd (hkv bk hk ++ ownv) ∧
      (bk = true ∨ (hk.map Prod.fst).all (fun n => memb n bd) = true) ∧ pgOs p dl.h = dl.h ∧ (dl.h.map Prod.fst).all (fun n => !memb n (hk.map Prod.fst)) = true)) ∧
    Loc C slm (outO bd (hkv bk hk ++ ownv)) x dl)
/-- What the listed ones have laid; the last one stands first. -/
def pickSR (ds : List Nat) : Nat → List Dl → List (Nat × AV)
  | n + 1, x :: xs => bif membN n ds then (x.d, x.r) :: pickSR ds n xs else pickSR ds n xs
  | _, _ => []
def pickHR (ds : List Nat) : Nat → List Dl → List (Nat × OB)
  | n + 1, x :: xs => bif membN n ds then x.h ++ pickHR ds n xs else pickHR ds n xs
  | _, _ => []
theorem pickSR_of {ds : List Nat} {sl : List (Nat × AV)} : ∀ {racc : List Dl} {n t : Nat} {y : AV}, n = racc.length → get (pickSR ds n racc ++ sl) t = some y → (∃ j x, racc.reverse[j]? = some x ∧ membN j ds = true ∧ x.d = t ∧ x.r = y) ∨ get sl t = some y
  | [], n, t, y, hn, h => .inr (by subst hn; exact h)
  | x :: xs, n, t, y, hn, h => by
    subst hn
    have hx : (x :: xs).reverse[xs.length]? = some x := by simp
    have lift : (∃ j z, xs.reverse[j]? = some z ∧ membN j ds = true ∧ z.d = t ∧ z.r = y) ∨ get sl t = some y → (∃ j z, (x :: xs).reverse[j]? = some z ∧ membN j ds = true ∧ z.d = t ∧ z.r = y) ∨ get sl t = some y := by
      rintro (⟨j, z, h1, h2⟩ | h1)
      · refine .inl ⟨j, z, ?_, h2⟩
        rw [List.reverse_cons, List.getElem?_append_left]
        · exact h1
        · rcases Nat.lt_or_ge j xs.reverse.length with h | h
          · exact h
          · rw [List.getElem?_eq_none h] at h1; cases h1
      · exact .inr h1
    rw [List.length_cons, pickSR] at h
    cases hm : membN xs.length ds with
    | true =>
      rw [hm, cond_true, List.cons_append, get_cons] at h
      split at h
      · rename_i he; cases h; exact .inl ⟨_, x, hx, hm, he, rfl⟩
      · exact lift (pickSR_of rfl h)
    | false => rw [hm, cond_false] at h; exact lift (pickSR_of rfl h)
theorem pickHR_of {ds : List Nat} {own : List (Nat × OB)} : ∀ {racc : List Dl} {n e : Nat} {ob : OB}, n = racc.length → get (pickHR ds n racc ++ own) e = some ob → (∃ j x, racc.reverse[j]? = some x ∧ membN j ds = true ∧ get x.h e = some ob) ∨ get own e = some ob
  | [], n, t, y, hn, h => .inr (by subst hn; exact h)
  | x :: xs, n, t, y, hn, h => by
    subst hn
    have hx : (x :: xs).reverse[xs.length]? = some x := by simp
    have lift : (∃ j z, xs.reverse[j]? = some z ∧ membN j ds = true ∧ get z.h t = some y) ∨ get own t = some y → (∃ j z, (x :: xs).reverse[j]? = some z ∧ membN j ds = true ∧ get z.h t = some y) ∨ get own t = some y := by
      rintro (⟨j, z, h1, h2⟩ | h1)
      · refine .inl ⟨j, z, ?_, h2⟩
        rw [List.reverse_cons, List.getElem?_append_left]
        · exact h1
        · rcases Nat.lt_or_ge j xs.reverse.length with h | h
          · exact h
          · rw [List.getElem?_eq_none h] at h1; cases h1
      · exact .inr h1
    rw [List.length_cons, pickHR] at h
    cases hm : membN xs.length ds with
    | true =>
      rw [hm, cond_true, List.append_assoc] at h
      rcases get_app _ _ _ _ h with h1 | ⟨_, h1⟩
      · exact .inl ⟨_, x, hx, hm, h1⟩
      · exact lift (pickHR_of rfl h1)
    | false => rw [hm, cond_false] at h; exact lift (pickHR_of rfl h)
def AXG (C : Cx) (k dk : Nat) (p : Nat → Bool) (q : AV → Bool) (FN : List Nat) (hk : List (Nat × OB)) (sl : List (Nat × AV)) (own : List (Nat × OB)) (dk' : List Nat) : Nat → List Dl → List XI → List (List Nat) → List (List Nat) → List (List Nat) → (List Dl → Prop) → Prop
  | _, racc, [], _, _, _, K => K racc.reverse
  | i, racc, x :: xs, ds :: dss, ts :: tss, bd :: bds, K => ∃ dl, StepG C k dk p q FN hk (membN k ds) (membN i dk') i (pickSR ds i racc ++ sl) (pickHR ds i racc ++ own) ts bd x dl ∧ AXG C k dk p q FN hk sl own dk' (i + 1) (dl :: racc) xs dss tss bds K
  | _, _, _, _, _, _, _ => False
theorem axg_out {C : Cx} {k dk : Nat} {p : Nat → Bool} {q : AV → Bool} {FN : List Nat} {hk : List (Nat × OB)} {sl : List (Nat × AV)} {own : List (Nat × OB)} {dk' : List Nat} {K : List Dl → Prop} : ∀ {xs : List XI} {dss tss bds : List (List Nat)} {i : Nat} {racc : List Dl}, i = racc.length → AXG C k dk p q FN hk sl own dk' i racc xs dss tss bds K →
    ∃ more, K (racc.reverse ++ more) ∧ more.length = xs.length ∧ ∀ j x, xs[j]? = some x → ∃ dl ds ts bd slv ownv, more[j]? = some dl ∧ dss[j]? = some ds ∧ StepG C k dk p q FN hk (membN k ds) (membN (i + j) dk') (i + j) slv ownv ts bd x dl ∧
      (∀ t y, get slv t = some y → (∃ m z, (racc.reverse ++ more)[m]? = some z ∧ membN m ds = true ∧ z.d = t ∧ z.r = y) ∨ get sl t = some y) ∧
      (∀ e ob, get ownv e = some ob → (∃ m z, (racc.reverse ++ more)[m]? = some z ∧ membN m ds = true ∧ get z.h e = some ob) ∨ get own e = some ob)
  | [], dss, tss, bds, i, racc, _, h => ⟨[], by rw [List.append_nil]; simpa [AXG] using h, rfl, fun j x hx => by simp at hx⟩
  | y :: ys, ds :: dss, ts :: tss, bd :: bds, i, racc, hi, h => by
    obtain ⟨dl, h1, h2⟩ := h
    obtain ⟨more, h3, h4, h5⟩ := axg_out (by simp [hi]) h2
    have e : (dl :: racc).reverse ++ more = racc.reverse ++ dl :: more := by simp
    rw [e] at h3 h5
    refine ⟨dl :: more, h3, by simp [h4], fun j x hx => ?_⟩
    have left : ∀ (m : Nat) (z : Dl), racc.reverse[m]? = some z → (racc.reverse ++ dl :: more)[m]? = some z := fun m z hm => by
      rw [List.getElem?_append_left]
      · exact hm
      · rcases Nat.lt_or_ge m racc.reverse.length with h | h
        · exact h
        · rw [List.getElem?_eq_none h] at hm; cases hm
    cases j with
    | zero =>
      simp only [List.getElem?_cons_zero, Option.some.injEq] at hx
      subst hx
      refine ⟨dl, ds, ts, bd, _, _, rfl, rfl, h1, fun t y hy => ?_, fun e ob he => ?_⟩
      · rcases pickSR_of hi hy with ⟨m, z, h6, h7⟩ | h6
        · exact .inl ⟨m, z, left m z h6, h7⟩
        · exact .inr h6
      · rcases pickHR_of hi he with ⟨m, z, h6, h7⟩ | h6
        · exact .inl ⟨m, z, left m z h6, h7⟩
        · exact .inr h6
    | succ j =>
      obtain ⟨d', ds', ts', bd', sv, ov, h6, h7, h8, h9, h10⟩ := h5 j x (by simpa using hx)
      rw [show i + 1 + j = i + (j + 1) from by omega] at h8
      exact ⟨d', ds', ts', bd', sv, ov, by simpa using h6, by simpa using h7, h8, h9, h10⟩
  | _ :: _, [], _, _, _, _, _, h => h.elim
  | _ :: _, _ :: _, [], _, _, _, _, h => h.elim
  | _ :: _, _ :: _, _ :: _, [], _, _, _, h => h.elim
def stG (k dk : Nat) (p : Nat → Bool) (q : AV → Bool) (hk : List (Nat × OB)) (sl : List (Nat × AV)) (own : List (Nat × OB)) (acc : List Dl) (L : Nat → Bool) : St :=
  bif L k then ⟨fltS q dk (pickS L 0 acc ++ sl), hk ++ pgOs p (pickH L 0 acc ++ own)⟩ else ⟨pickS L 0 acc ++ sl, pickH L 0 acc ++ own⟩
/-- Of the operation that turns own blocks: what it lays as new. -/
def withK (k : Nat) (hk : List (Nat × OB)) : Nat → List Dl → List Dl
  | _, [] => []
  | i, x :: xs => (bif Nat.beq i k then ⟨x.d, x.r, hk⟩ else x) :: withK k hk (i + 1) xs
theorem withK_get {k : Nat} {hk : List (Nat × OB)} : ∀ {acc : List Dl} {i j : Nat} {x : Dl}, acc[j]? = some x → (withK k hk i acc)[j]? = some (bif Nat.beq (i + j) k then ⟨x.d, x.r, hk⟩ else x)
  | y :: ys, i, 0, x, h => by
    simp only [List.getElem?_cons_zero, Option.some.injEq] at h
    subst h; rw [withK]; simp
  | y :: ys, i, j + 1, x, h => by
    rw [withK, List.getElem?_cons_succ, withK_get (by simpa using h), show i + 1 + j = i + (j + 1) from by omega]
def accG (deps : List (List Nat)) (k : Nat) (FN : List Nat) (hk : List (Nat × OB)) (sl : List (Nat × AV)) (own : List (Nat × OB)) (acc : List Dl) : Bool :=
  distinct (acc.map Dl.d) && frS (acc.map Dl.d) sl && distinct (allNs acc) && noneIn own (allNs acc) && nsOK sl own (allNs acc) && indepB deps (withK k hk 0 acc) 0 acc && Nat.ble (k + 1) acc.length &&
    distinct FN && nsOK sl own FN && indepI deps k FN 0 (withK k hk 0 acc)
theorem pickS_congr {L L' : Nat → Bool} : ∀ {acc : List Dl} {i : Nat}, (∀ j, j < acc.length → L (i + j) = L' (i + j)) → pickS L i acc = pickS L' i acc
  | [], _, _ => rfl
  | x :: xs, i, h => by
    have h0 := h 0 (by simp)
    rw [Nat.add_zero] at h0
    have ih := pickS_congr (L := L) (L' := L') (acc := xs) (i := i + 1) (fun j hj => by
      have := h (j + 1) (by simpa using hj)
      rwa [show i + (j + 1) = i + 1 + j from by omega] at this)
    rw [pickS, pickS, h0, ih]
theorem pickH_congr {L L' : Nat → Bool} : ∀ {acc : List Dl} {i : Nat}, (∀ j, j < acc.length → L (i + j) = L' (i + j)) → pickH L i acc = pickH L' i acc
  | [], _, _ => rfl
  | x :: xs, i, h => by
    have h0 := h 0 (by simp)
    rw [Nat.add_zero] at h0
    have ih := pickH_congr (L := L) (L' := L') (acc := xs) (i := i + 1) (fun j hj => by
      have := h (j + 1) (by simpa using hj)
      rwa [show i + (j + 1) = i + 1 + j from by omega] at this)
    rw [pickH, pickH, h0, ih]
theorem pickS_none : ∀ {acc : List Dl} {i : Nat}, pickS (fun _ => false) i acc = []
  | [], _ => rfl
  | _ :: xs, i => by rw [pickS, cond_false, pickS_none]
theorem pickH_none : ∀ {acc : List Dl} {i : Nat}, pickH (fun _ => false) i acc = []
  | [], _ => rfl
  | _ :: xs, i => by rw [pickH, cond_false, pickH_none]
theorem get_pgOs_some {p : Nat → Bool} {l : List (Nat × OB)} {e : Nat} {ob : OB} (h : get l e = some ob) : get (pgOs p l) e = some (pgO p ob) := by
  rw [get_pgOs, h]; rfl
theorem get_pgOs_of {p : Nat → Bool} {l : List (Nat × OB)} {e : Nat} {ob : OB} (h : get (pgOs p l) e = some ob) : ∃ ob0, get l e = some ob0 ∧ ob = pgO p ob0 := by
  rw [get_pgOs] at h
  cases hg : get l e with
  | none => rw [hg] at h; cases h
  | some o => rw [hg] at h; exact ⟨o, rfl, (Option.some.inj h).symm⟩
theorem allP_get {p : Nat → Bool} {h : List (Nat × OB)} (ha : pgOs p h = h) {e : Nat} {ob : OB} (hg : get h e = some ob) : pgO p ob = ob := by
  have := get_pgOs_some (p := p) hg
  rw [ha, hg] at this
  exact (Option.some.inj this).symm
def depsAt (deps : List (List Nat)) (k : Nat) : List Nat := match deps[k]? with | some l => l | none => []
theorem depsAt_eq {deps : List (List Nat)} {k j : Nat} : depOf deps k j = membN j (depsAt deps k) := by
  unfold depOf depsAt
  cases deps[k]? with
  | none => rfl
  | some l => rfl
theorem cx_drawL {C : Cx} {Kn Kr : Kont} {Ke : List (Nat × Kont)} {deps : List (List Nat)} {hd tl : List XI} {sl : List (Nat × AV)} {own : List (Nat × OB)} (k dk : Nat) (p : Nat → Bool) (q : AV → Bool) (FN : List Nat) (hk : List (Nat × OB)) (tss bds : List (List Nat)) {dk' : List Nat} (hdk' : depsAt deps k = dk')
    (h : AXG C k dk p q FN hk sl own dk' 0 [] hd deps tss bds (fun acc => accG deps k FN hk sl own acc = true ∧ AXI C false [] tl (stG k dk p q hk sl own acc (fun _ => true)) Kn)) : AX C (.drawE deps hd tl) ⟨sl, own⟩ Kn Ke Kr := by
  obtain ⟨acc, ⟨g1, gt⟩, g3, g4⟩ := axg_out (racc := []) (i := 0) rfl h
  simp only [List.reverse_nil, List.nil_append, Nat.zero_add] at g1 gt g4
  subst hdk'
  unfold accG at g1
  simp only [Bool.and_eq_true] at g1
  obtain ⟨⟨⟨⟨⟨⟨⟨⟨⟨a1, a2⟩, a3⟩, a4⟩, a5⟩, a6⟩, a8⟩, b1⟩, b2⟩, b3⟩ := g1
  have a8 := Nat.le_of_ble_eq_true a8
  refine cx_drawG (stG k dk p q hk sl own acc) (fun L L' hLL => ?_) ?_ ?_ gt
  · unfold stG
    rw [hLL k (by omega), pickS_congr (i := 0) (L := L) (L' := L') (fun j hj => by rw [Nat.zero_add]; exact hLL j (by omega)), pickH_congr (i := 0) (L := L) (L' := L') (fun j hj => by rw [Nat.zero_add]; exact hLL j (by omega))]
  · have : stG k dk p q hk sl own acc (fun _ => false) = ⟨sl, own⟩ := by
      unfold stG; rw [cond_false, pickS_none, pickH_none]; rfl
    rw [this]; exact fun _ _ S => S
  · intro i x hx L hLi hdep hcl
    obtain ⟨dl, ds, ts, bd, slv, ownv, hdl, hds, hstep, hv1, hv2⟩ := g4 i x hx
    have hmd : ∀ m, membN m ds = depOf deps i m := fun m => by unfold depOf; rw [hds]
    rw [hmd k, ← depsAt_eq] at hstep
    -- the views
    have hvS : ∀ t y, get slv t = some y → get (pickS L 0 acc ++ sl) t = some y := fun t y hy => pickS_mk a1 a2 (by
      rcases hv1 t y hy with ⟨j, z, q1, q2, q3, q4⟩ | q0
      · rw [hmd] at q2
        exact .inl ⟨j, z, q1, by rw [Nat.zero_add]; exact hdep j q2, q3, q4⟩
      · exact .inr q0)
    have hvO : ∀ e ob, get ownv e = some ob → get (pickH L 0 acc ++ own) e = some ob := fun e ob he => pickH_mk a3 a4 (by
      rcases hv2 e ob he with ⟨j, z, q1, q2, q3⟩ | q0
      · rw [hmd] at q2
        exact .inl ⟨j, z, q1, by rw [Nat.zero_add]; exact hdep j q2, q3⟩
      · exact .inr q0)
    let L' : Nat → Bool := fun j => Nat.beq i j || L j
    have hLL' : ∀ j, L j = true → L' j = true := fun j hj => by show (Nat.beq i j || L j) = true; rw [hj, Bool.or_true]
    have hL'i : L' i = true := by show (Nat.beq i i || L i) = true; simp
    have hL'o : ∀ j, L' j = true → j ≠ i → L j = true := fun j hj hne => by
      have : (Nat.beq i j || L j) = true := hj
      rw [beq_ne (fun h => hne h.symm), Bool.false_or] at this; exact this
    have hS : ∀ t y, get (pickS L' 0 acc ++ sl) t = some y → (t = dl.d ∧ y = dl.r) ∨ (t ≠ dl.d ∧ get (pickS L 0 acc ++ sl) t = some y) := by
      intro t y hy
      rcases pickS_of hy with ⟨j, z, q1, q2, q3, q4⟩ | q0
      · rw [Nat.zero_add] at q2
        by_cases hij : j = i
        · subst hij; rw [hdl] at q1; cases q1; exact .inl ⟨q3.symm, q4.symm⟩
        · refine .inr ⟨fun he => ds_ne a1 hdl q1 (fun h => hij h.symm) (by rw [q3, he]), pickS_mk a1 a2 (.inl ⟨j, z, q1, by rw [Nat.zero_add]; exact hL'o j q2 hij, q3, q4⟩)⟩
      · refine .inr ⟨fun he => ?_, pickS_mk a1 a2 (.inr q0)⟩
        subst he
        rw [frS_mem a2 dl.d (List.mem_map_of_mem (List.mem_of_getElem? hdl))] at q0; cases q0
    have hO : ∀ e ob, get (pickH L' 0 acc ++ own) e = some ob → get dl.h e = some ob ∨ (get dl.h e = none ∧ get (pickH L 0 acc ++ own) e = some ob) := by
      intro e ob he
      rcases pickH_of he with ⟨j, z, q1, q2, q3⟩ | q1
      · rw [Nat.zero_add] at q2
        by_cases hij : j = i
        · subst hij; rw [hdl] at q1; cases q1; exact .inl q3
        · refine .inr ⟨?_, pickH_mk a3 a4 (.inl ⟨j, z, q1, by rw [Nat.zero_add]; exact hL'o j q2 hij, q3⟩)⟩
          cases hg : get dl.h e with
          | none => rfl
          | some o => exact absurd (get_mem_fst q3) (ns_ne a3 hdl q1 (fun h => hij h.symm) e (get_mem_fst hg))
      · refine .inr ⟨?_, pickH_mk a3 a4 (.inr q1)⟩
        cases hg : get dl.h e with
        | none => rfl
        | some o =>
          have := noneIn_mem a4 ((ns_distinct a3 hdl).2 e (get_mem_fst hg))
          rw [this] at q1; cases q1
    -- new names are free
    have hnr : ∀ (ns : List Nat), indepI deps i ns 0 (withK k hk 0 acc) = true → nsOK sl own ns = true → ∀ n ∈ ns, n < 1000 ∧ nrS n (pickS L 0 acc ++ sl) = true ∧ nrOs n (pickH L 0 acc ++ own) = true ∧ (L k = true → nrOs n hk = true) := by
      intro ns hi hn n hm
      obtain ⟨c1, c2, c3⟩ := nsOK_spec hn hm
      have hind : ∀ j y, acc[j]? = some y → L j = true → nrA n y.r = true ∧ nrOs n (bif Nat.beq j k then hk else y.h) = true := fun j y hy hL => by
        have := indepI_spec (j := 0) (k := j) hi (withK_get (i := 0) hy) (by rw [Nat.zero_add]; rintro rfl; rw [hLi] at hL; cases hL) (by
          rw [Nat.zero_add]
          cases hh : depOf deps j i with
          | false => rfl
          | true => have := hcl j i hL hh; rw [hLi] at this; cases this) n hm
        rw [Nat.zero_add] at this
        cases hb : Nat.beq j k with
        | true => rw [hb] at this; exact this
        | false => rw [hb] at this; exact this
      refine ⟨c1, ?_, ?_, fun hLk => ?_⟩
      · rw [nrS_append, c2, Bool.and_true]
        exact nrS_pick fun j y hy hL => (hind j y hy (by rw [Nat.zero_add] at hL; exact hL)).1
      · rw [nrOs_append, c3, Bool.and_true]
        refine nrOs_pick fun j y hy hL => ?_
        rw [Nat.zero_add] at hL
        have := (hind j y hy hL).2
        cases hb : Nat.beq j k with
        | false => rw [hb] at this; exact this
        | true =>
          have hjk := Nat.eq_of_beq_eq_true hb
          subst hjk
          obtain ⟨xk, hxk⟩ : ∃ x, hd[j]? = some x := ⟨hd[j]'(by omega), by simp [show j < hd.length from by omega]⟩
          obtain ⟨dl', _, _, _, _, _, h1, _, h2, _⟩ := g4 j xk hxk
          rw [hy] at h1; cases h1
          rcases h2 with ⟨_, h2, _⟩ | ⟨h2, _⟩
          · rw [h2]; rfl
          · simp at h2
      · have := (hind k _ (by simp [show k < acc.length from a8]; rfl) hLk).2
        simpa using this
    show AXI C false [] [x] (stG k dk p q hk sl own acc L) (fun st' => Wk C st' (stG k dk p q hk sl own acc L'))
    rcases hstep with ⟨s1, sh, s2, s3⟩ | ⟨s1, slm, s2, s3, s5⟩
    · have s1 := Nat.eq_of_beq_eq_true s1
      have s2 := Nat.eq_of_beq_eq_true s2
      subst s1 s2
      have e1 : stG i dl.d p q hk sl own acc L = ⟨pickS L 0 acc ++ sl, pickH L 0 acc ++ own⟩ := by unfold stG; rw [hLi]; rfl
      have e2 : stG i dl.d p q hk sl own acc L' = ⟨fltS q dl.d (pickS L' 0 acc ++ sl), hk ++ pgOs p (pickH L' 0 acc ++ own)⟩ := by unfold stG; rw [hL'i]; rfl
      rw [e1, e2]
      refine (s3 _ _ hvS hvO (freeN_mk b1 (fun n hn => ⟨(hnr FN b3 b2 n hn).1, (hnr FN b3 b2 n hn).2.1, (hnr FN b3 b2 n hn).2.2.1⟩))).mono ?_
      rintro st' ⟨u1, u2, u3, u4⟩
      refine wk_le2 (fun t y hy => ?_) (fun e ob he => ?_)
      · rcases get_flt hy with rfl | ⟨h1, h2⟩
        · exact .inl rfl
        · rcases hS t y h1 with ⟨rfl, rfl⟩ | ⟨h3, h4⟩
          · exact u1
          · right
            rcases h2 with h2 | h2
            · exact absurd h2 h3
            · exact u2 t y h3 h4 h2
      · rcases get_app _ _ _ _ he with h1 | ⟨h1, h2⟩
        · exact u3 e ob h1
        · obtain ⟨ob0, h3, rfl⟩ := get_pgOs_of h2
          rcases hO e ob0 h3 with h4 | ⟨_, h4⟩
          · rw [sh] at h4; simp [get] at h4
          · exact u4 e ob0 h1 h4
    · have hik : i ≠ k := fun h => by subst h; simp at s1
      have hL'k : L' k = L k := by show (Nat.beq i k || L k) = L k; rw [s1, Bool.false_or]
      have hind : indepI deps i (dl.h.map Prod.fst) 0 (withK k hk 0 acc) = true := by
        have := indepB_spec (i := 0) a6 hdl
        rwa [Nat.zero_add] at this
      have hnsO : nsOK sl own (dl.h.map Prod.fst) = true := by
        have key : ∀ ns : List Nat, (∀ n ∈ ns, n ∈ allNs acc) → nsOK sl own ns = true := by
          intro ns
          induction ns with
          | nil => intro _; rfl
          | cons n ns ih =>
            intro hn
            obtain ⟨c1, c2, c3⟩ := nsOK_spec a5 (hn n List.mem_cons_self)
            rw [nsOK, c2, c3, ih (fun m hm => hn m (List.mem_cons_of_mem _ hm)), Nat.ble_eq_true_of_le c1]; rfl
        exact key _ (ns_distinct a3 hdl).2
      cases hLk : L k with
      | false =>
        have e1 : stG k dk p q hk sl own acc L = ⟨pickS L 0 acc ++ sl, pickH L 0 acc ++ own⟩ := by unfold stG; rw [hLk]; rfl
        have e2 : stG k dk p q hk sl own acc L' = ⟨pickS L' 0 acc ++ sl, pickH L' 0 acc ++ own⟩ := by unfold stG; rw [hL'k, hLk]; rfl
        rw [e1, e2]
        have hki : hkv (depOf deps i k) hk = [] := by
          unfold hkv
          cases hh : depOf deps i k with
          | false => rfl
          | true => have := hdep k hh; rw [hLk] at this; cases this
        rw [hki] at s5
        refine (s5 _ _ (fun t y hy => hvS t y (keepK_get s2 t y hy)) (fun e ob he => hvO e ob (outO_get he).2) (freeN_mk (ns_distinct a3 hdl).1 (fun n hn => ⟨(hnr _ hind hnsO n hn).1, (hnr _ hind hnsO n hn).2.1, (hnr _ hind hnsO n hn).2.2.1⟩))).mono ?_
        rintro st' ⟨u1, u2⟩
        refine wk_le2 (fun t y hy => .inr (u1 t y ?_)) (fun e ob he => u2 e ob ?_)
        · rcases hS t y hy with ⟨rfl, rfl⟩ | ⟨h3, h4⟩
          · exact get_cons_self _ _ _
          · rw [get_cons_ne _ _ (fun h => h3 h.symm)]; exact h4
        · rcases hO e ob he with h2 | ⟨h2, h3⟩
          · rw [get_append, h2]
          · rw [get_append, h2]; exact h3
      | true =>
        have e1 : stG k dk p q hk sl own acc L = ⟨fltS q dk (pickS L 0 acc ++ sl), hk ++ pgOs p (pickH L 0 acc ++ own)⟩ := by unfold stG; rw [hLk]; rfl
        have e2 : stG k dk p q hk sl own acc L' = ⟨fltS q dk (pickS L' 0 acc ++ sl), hk ++ pgOs p (pickH L' 0 acc ++ own)⟩ := by unfold stG; rw [hL'k, hLk]; rfl
        rw [e1, e2]
        have hdk : depOf deps k i = false := by
          cases hh : depOf deps k i with
          | false => rfl
          | true => have := hcl k i hLk hh; rw [hLi] at this; cases this
        rw [hdk] at s3
        obtain ⟨v1, v2, v3, v4, v5⟩ := s3.resolve_left (by simp)
        have hdis : ∀ e ob, get dl.h e = some ob → get hk e = none := fun e ob he => by
          cases hg : get hk e with
          | none => rfl
          | some o =>
            have := List.all_eq_true.1 v5 e (get_mem_fst he)
            rw [memb_iff.2 (get_mem_fst hg)] at this; cases this
        refine (s5 _ _ (fun t y hy => ?_) (fun e ob he => ?_) (freeN_mk (ns_distinct a3 hdl).1 (fun n hn => ?_))).mono ?_
        · have h1 := hvS t y (keepK_get s2 t y hy)
          rw [← v1] at hy
          rcases get_flt hy with rfl | ⟨_, h2⟩
          · rw [get_fltS, h1, Option.map_some]
            cases (Nat.beq t dk || q .dead) <;> rfl
          · exact flt_get h1 h2
        · have hob := allP_get v2 he
          obtain ⟨hb, he⟩ := outO_get he
          have hrest : get hk e = none → get ownv e = some ob → get (hk ++ pgOs p (pickH L 0 acc ++ own)) e = some ob := fun h1 h2 => by
            rw [get_append, h1, get_pgOs_some (hvO e ob h2), hob]
          unfold hkv at he
          cases hdk' : depOf deps i k with
          | true =>
            rw [hdk', cond_true] at he
            rcases get_app _ _ _ _ he with h1 | ⟨h1, h2⟩
            · rw [get_append, h1]
            · exact hrest h1 h2
          | false =>
            rw [hdk', cond_false, List.nil_append] at he
            refine hrest ?_ he
            rcases v3 with v3 | v3
            · rw [hdk'] at v3; cases v3
            · cases hg : get hk e with
              | none => rfl
              | some o => exact absurd (memb_iff.1 (List.all_eq_true.1 v3 e (get_mem_fst hg))) hb
        · obtain ⟨c1, c2, c3, c4⟩ := hnr _ hind hnsO n hn
          refine ⟨c1, nrS_flt c2, ?_⟩
          show nrOs n (hk ++ pgOs p (pickH L 0 acc ++ own)) = true
          rw [nrOs_append, c4 hLk, nrOs_pgOs c3]; rfl
        · rintro st' ⟨u1, u2⟩
          refine wk_le2 (fun t y hy => ?_) (fun e ob he => u2 e ob ?_)
          · rcases get_flt hy with rfl | ⟨h1, h2⟩
            · exact .inl rfl
            · right
              refine u1 t y ?_
              rcases hS t y h1 with ⟨rfl, rfl⟩ | ⟨h3, h4⟩
              · exact get_cons_self _ _ _
              · rw [get_cons_ne _ _ (fun h => h3 h.symm)]
                exact flt_get h4 h2
          · rcases get_app _ _ _ _ he with h1 | ⟨h1, h2⟩
            · have : get dl.h e = none := by
                cases hg : get dl.h e with
                | none => rfl
                | some o => rw [hdis e o hg] at h1; cases h1
              rw [get_append, this]
              show get (hk ++ _) e = some ob
              rw [get_append, h1]
            · obtain ⟨ob0, h3, rfl⟩ := get_pgOs_of h2
              rcases hO e ob0 h3 with h4 | ⟨h4, h5⟩
              · rw [get_append, h4, allP_get v4 h4]
              · rw [get_append, h4]
                show get (hk ++ _) e = _
                rw [get_append, h1]; exact get_pgOs_some h5
end Go.AM

namespace Go.AM
theorem dropR_keep {e : Nat} : ∀ {sl : List (Nat × AV)} {t : Nat} {y : AV}, get sl t = some y → nrA e y = true → get (dropR e sl) t = some y
  | (k, x) :: r, t, y, h, hn => by
    rw [get_cons] at h
    rw [dropR]
    split at h
    · rename_i hk
      cases h
      rw [hn, cond_true, get_cons, if_pos hk]
    · rename_i hk
      have ih := dropR_keep h hn
      cases nrA e x with
      | true => rw [cond_true, get_cons, if_neg hk]; exact ih
      | false => rw [cond_false, get_cons, if_neg hk]; exact ih
section
variable {C : Cx} {slm : List (Nat × AV)} {ownm : List (Nat × OB)}
theorem locl_app {d sz bytes e len n' : Nat} {zs : List K} {x y : XA} {v : AV} {rs rows rs' : List (List D)} (hx : evA slm x = some (.osl e sz 0 len)) (he : get ownm e = some (.rows sz rs)) (hlen : len ≤ rs.length)
    (hy : evA slm y = some v) (hsrc : ∀ sl own, (∀ e ob, get ownm e = some ob → get own e = some ob) → SrcOK C ⟨sl, own⟩ sz v rows) (hm : e < 1000 ∨ C.mv e = true) (hb : (2 * (len + rows.length) + 256) * bytes ≤ 2 ^ 48)
    (hn : len + rows.length = n') (hrs : rs.take len ++ rows = rs') :
    LocL C (Nat.beq e) (nrA e) [] slm ownm (.op (some d) (.app sz bytes zs x y)) d (.osl e sz 0 n') [(e, .rows sz rs')] := by
  intro sl own h1 h2 _
  refine ax_e (e_appn (evA_mono h1 hx) (h2 _ _ he) hlen (evA_mono h1 hy) (hsrc sl own h2) hm hb hn hrs) (ax_nil ⟨.inr (get_cons_self _ _ _), fun t z ht hz hq => ?_, fun k ob hk => ?_, fun k ob hk hg => ?_⟩)
  · show get ((d, _) :: dropR e sl) t = some z
    rw [get_cons_ne _ _ (fun h => ht h.symm)]
    exact dropR_keep hz hq
  · show get ((e, OB.rows sz rs') :: dropO e own) k = some ob
    rw [get_cons] at hk ⊢
    split at hk
    · rename_i h; rw [if_pos h]; exact hk
    · simp [get] at hk
  · show get ((e, OB.rows sz rs') :: dropO e own) k = some (pgO (Nat.beq e) ob)
    have hne : e ≠ k := fun h => by rw [get_cons, if_pos h] at hk; cases hk
    rw [get_cons_ne _ _ hne, dropO_eq]
    exact get_pgOs_some hg
/-- What turns nothing. -/
theorem locl_of {x : XI} {d : Nat} {r : AV} (h : Loc C slm ownm x ⟨d, r, []⟩) : LocL C (fun _ => false) (fun _ => true) [] slm ownm x d r [] := by
  intro sl own g1 g2 _
  refine (h sl own g1 g2 rfl).mono ?_
  rintro st' ⟨u1, u2⟩
  exact ⟨.inr (u1 _ _ (get_cons_self _ _ _)), fun t y ht hy _ => u1 t y (by rw [get_cons_ne _ _ (fun h => ht h.symm)]; exact hy), fun e ob he => by simp [get] at he, fun e ob _ he => by rw [pgO_id _ (fun _ => rfl)]; exact u2 e ob he⟩
end
end Go.AM
namespace Go.AM
end Go.AM

namespace Go.AM
section
variable {C : Cx} {sl : List (Nat × AV)} {own : List (Nat × OB)}
/-- The capacity is looked at. -/
theorem cx_cap {x : XCode} {Kn Kr : Kont} {Ke : List (Nat × Kont)} (t : Nat) {e sz s len : Nat} (hx : get sl t = some (.osl e sz s len))
    (h : ∀ c, len ≤ c → AX C x ⟨(t, .oslc e sz s len c) :: sl, own⟩ Kn Ke Kr) : AX C x ⟨sl, own⟩ Kn Ke Kr := by
  intro c hf a w S
  obtain ⟨β, S⟩ := S
  have h1 := S.slots t _ hx
  rw [AR] at h1
  obtain ⟨ad, cap, h2, h3, h4⟩ := h1
  refine h cap h3 c hf a w ⟨β, { S with slots := fun k y hy => ?_ }⟩
  rw [get_cons] at hy
  split at hy
  · rename_i hk; subst hk; cases hy; rw [AR]; exact ⟨ad, h2, h3, h4⟩
  · exact S.slots k y hy
/-- .. and forgotten. -/
theorem wk_uncap (t : Nat) {e sz s len c : Nat} (hx : get sl t = some (.oslc e sz s len c)) : Wk C ⟨sl, own⟩ ⟨(t, .osl e sz s len) :: sl, own⟩ := by
  rintro a w ⟨β, S⟩
  refine ⟨β, { S with slots := fun k y hy => ?_ }⟩
  rw [get_cons] at hy
  split at hy
  · rename_i hk
    have h1 := S.slots t _ hx
    rw [AR] at h1
    obtain ⟨ad, h2, h3, h4⟩ := h1
    subst hk
    cases hy
    rw [AR]
    exact ⟨ad, c, h2, h3, h4⟩
  · exact S.slots k y hy
theorem q_lenC {st : St} {x : XA} {e sz s len c : Nat} (hx : evA st.sl x = some (.oslc e sz s len c)) : QStep C st (.lenS x) (.d (.int .i64 len)) := by
  intro op hf ac w β S
  obtain ⟨y, t, e, ho, hu, hy⟩ := lenS_fit hf
  have h2 := AR_of_fitA S hy hx
  rw [AR] at h2
  obtain ⟨a, h2, _⟩ := h2
  exact ⟨_, by rw [AR, DR], fun w' _ => len_run ho hu h2 w'⟩
/-- A slice of a slice, up to the capacity. -/
theorem q_slcC {st : St} {sz : Nat} {x : XA} {lo hi : Option XA} {e s len c : Nat} {a b : Int} (hx : evA st.sl x = some (.oslc e sz s len c)) (ha : bnd st.sl lo 0 = some a) (hb : bnd st.sl hi len = some b)
    (h0 : 0 ≤ a) (h1 : a ≤ b) (h2 : b ≤ c) : QStep C st (.slc sz x lo hi none) (.oslc e sz (s + a.toNat) (b.toNat - a.toNat) (c - a.toNat)) := by
  intro op hf ac w β S
  obtain ⟨t, y, l, h, el, ho, hu, hz, hy, hl, hh⟩ := slc_fit hf
  have h4 := AR_of_fitA S hy hx
  rw [AR] at h4
  obtain ⟨ad, h4, h5, h6⟩ := h4
  refine ⟨.slice (if c = a.toNat then ad else ad.map (·.add (a.toNat * sz))) (b.toNat - a.toNat) (c - a.toNat), ?_, fun w' _ => ?_⟩
  · rw [AR]
    refine ⟨_, rfl, by omega, ?_⟩
    by_cases hc : c - a.toNat = 0
    · exact .inl hc
    · right
      rcases h6 with h6 | ⟨bb, cc, ty, fr, h7, rfl, h8, h9⟩
      · omega
      rw [if_neg (by omega)]
      exact ⟨bb, cc, ty, fr, h7, by simp [add_spot, Nat.add_mul], h8, by rw [show s + a.toNat + (c - a.toNat) = s + c from by omega]; exact h9⟩
  · have hbr := bounds_run (P := C.P) (isS := true) (len := len) (cap := c) S hl hh ha hb h0 h1 (by simpa using h2) w'
    simp only [execOp, ho, Instr.sliceAt, Sem.run_bind, run_underlying hu, Result.andThen_ok, Instr.slice, h4, Option.map_none, hbr, szIs_some hz, Sem.run_pure]
/-- append within the capacity: in place. -/
theorem e_app_in {d sz bytes e len cap : Nat} {zs : List AM.K} {x y : XA} {v : AV} {rs rows : List (List D)} (hx : evA sl x = some (.oslc e sz 0 len cap)) (he : get own e = some (.rows sz rs)) (hlen : len ≤ rs.length)
    (hy : evA sl y = some v) (hsrc : SrcOK C ⟨sl, own⟩ sz v rows) (hroom : len + rows.length ≤ cap) :
    EStep C ⟨sl, own⟩ (some d) (.app sz bytes zs x y) ⟨(d, .oslc e sz 0 (len + rows.length) cap) :: sl, (e, .rows sz (rs.take len ++ rows ++ rs.drop (len + rows.length))) :: own⟩ := by
  intro o ho hd hf a w β S
  have hd := hd _ rfl
  obtain ⟨p, q, t, u, el, d2, hop, ht, hz, hby, hzero, hsz1, hb1, hu, hd2, hp, hq⟩ := app_fit hf
  have h1 := AR_of_fitA S hp hx
  have h2 := AR_of_fitA S hq hy
  obtain ⟨hn, vs, hvl, hvr, hfc, hones⟩ := hsrc a w β _ S h2
  rw [AR] at h1
  obtain ⟨base, h3, h4, h5⟩ := h1
  have hres : ∀ (r : Value) (w' : World), (Builtin.append_ #[t, u] o.type #[a.eval p, a.eval q]).run C.P w = .ok r w' → (execOp a.eval o).run C.P w = .ok (.value r) w' := by
    intro r w' hr
    simp only [execOp, hop, resolve, List.map_toArray, List.map_cons, List.map_nil, Sem.run_bind, Sem.run_pure, Result.andThen_ok, invoke, builtin, hr]
  rw [h3] at hres
  have hfm : (Builtin.firstCells sz rows.length (a.eval q)).run C.P w = .ok vs.toArray w := by
    have := hfc w (Ext.refl w) rows.length (Nat.le_refl _); rw [← hvl, List.take_length] at this; exact this
  rcases h5 with h5 | ⟨b, c, ty, fr, h6, h7, h8, h9⟩
  · have hr0 : rows.length = 0 := by omega
    have hl0 : len = 0 := by omega
    have hrn : rows = [] := List.eq_nil_of_length_eq_zero hr0
    have hvn : vs = [] := List.eq_nil_of_length_eq_zero (by rw [hvl, hr0]; simp)
    have hrun := append_fits (sLen := len) (sCap := cap) (base := base) ht hz hu hd2 (hn w) hfm hroom (w' := w) (by
      subst hvn
      cases base with
      | none => rfl
      | some ad => rfl) o.type
    refine ⟨_, w, β, hres _ _ hrun, .inr ⟨_, rfl, ?_⟩⟩
    have S1 : SatB C ⟨sl, (e, .rows sz (rs.take len ++ rows ++ rs.drop (len + rows.length))) :: own⟩ a w β := by
      have e1 : rs.take len ++ rows ++ rs.drop (len + rows.length) = rs := by rw [hrn, hl0]; simp
      rw [e1]
      exact S.le (fun k x hx => hx) (fun k ob hk => by
        rw [get_cons] at hk
        split at hk
        · rename_i hke; subst hke; cases hk; exact he
        · exact hk)
    exact S1.put hd (by rw [AR]; exact ⟨base, rfl, hroom, .inl h5⟩)
  · subst h7
    have hob0 := S.hr.own e _ he
    rw [h6] at hob0
    obtain ⟨c0, ty0, fr0, q1, q2, q3, q4⟩ := hob0
    rw [h8] at q1; cases q1
    have hcap : cap * sz ≤ c.size := by simpa using h9
    have hm1 : (len + rows.length) * sz ≤ c.size := Nat.le_trans (Nat.mul_le_mul_right _ hroom) hcap
    have hm1' := hm1
    rw [Nat.add_mul] at hm1
    have hst := storeCells_run (P := C.P) (o := len * sz) (vs := vs) h8 q2.1 (by rw [hvl]; exact hm1) hones
    obtain ⟨w1, w2, w3, w4, w5, w6⟩ := setCells_world b vs (len * sz) w
    have hrun := append_fits (sLen := len) (sCap := cap) (base := some ⟨b, 0 * sz, none⟩) ht hz hu hd2 (hn w) hfm hroom
      (w' := w.setCells b (len * sz) vs) (by simp only [Nat.zero_mul, add_spot, Nat.zero_add]; exact hst) o.type
    refine ⟨_, _, β, hres _ _ hrun, .inr ⟨_, rfl, ?_⟩⟩
    have hcc : ∀ c' ty' fr', w.heap[b]? = some (.cells c' ty' fr') → ∃ c'' ty'' fr'', (w.setCells b (len * sz) vs).heap[b]? = some (.cells c'' ty'' fr'') ∧ c''.size = c'.size := fun c' ty' fr' h =>
      ⟨_, _, _, w6 c' ty' fr' h, by simp [setL_length]⟩
    have T := Tr.store (X := C.X) h6 w4 w5 hcc
    have hlc : (c.toList.take (len * sz)).length = len * sz := by simp; omega
    have hset : setL c.toList (len * sz) vs = c.toList.take (len * sz) ++ vs ++ c.toList.drop ((len + rows.length) * sz) := by
      have := setL_append (c.toList.take (len * sz)) (c.toList.drop (len * sz)) vs (by simp; omega)
      rw [List.take_append_drop, hlc, List.drop_drop, hvl, ← Nat.add_mul] at this
      exact this
    have q4' : RowsR C.X β w sz rs c.toList.toArray := by simpa using q4
    have hRR : RowsR C.X β w sz (rs.take len ++ rows ++ rs.drop (len + rows.length)) (c.toList.take (len * sz) ++ vs ++ c.toList.drop ((len + rows.length) * sz)).toArray := by
      have r1 : RowsR C.X β w sz (rs.take len) (c.toList.take (len * sz)).toArray := RowsR_take q4 len
      have r3 := RowsR_drop q4' (len + rows.length)
      have e2 : (c.toList.take (len * sz)).length = (rs.take len).length * sz := by rw [hlc, List.length_take, Nat.min_eq_left hlen]
      have e3 : (c.toList.take (len * sz) ++ vs).length = (rs.take len ++ rows).length * sz := by
        rw [List.length_append, List.length_append, hlc, hvl, List.length_take, Nat.min_eq_left hlen, Nat.add_mul]
      exact RowsR_split (RowsR_split r1 e2 hvr) e3 r3
    have hob : OBR C.X β (w.setCells b (len * sz) vs) (.rows sz (rs.take len ++ rows ++ rs.drop (len + rows.length))) (some b) e := by
      refine ⟨_, ty, fr, w6 c ty fr h8, by simpa [setL_length] using q2, ?_, ?_⟩
      · have : (rs.take len ++ rows ++ rs.drop (len + rows.length)).length * sz ≤ c.size := by
          rcases Nat.le_total (len + rows.length) rs.length with hq | hq
          · have e : (rs.take len ++ rows ++ rs.drop (len + rows.length)).length = rs.length := by simp; omega
            rw [e]; exact q3
          · have e : (rs.take len ++ rows ++ rs.drop (len + rows.length)).length = len + rows.length := by simp; omega
            rw [e]; exact hm1'
        simpa [setL_length] using this
      · rw [hset]; exact hRR.mono T.keep
    refine (S.store h6 ⟨w1, w2, w3⟩ w4 w5 hcc hob).put hd ?_
    rw [AR]
    exact ⟨_, rfl, hroom, .inr ⟨b, _, ty, fr, h6, rfl, w6 c ty fr h8, by simp [setL_length]; exact hcap⟩⟩
end
end Go.AM

namespace Go.AM
theorem q_slcX {C : Cx} {st : St} {sz : Nat} {x lo hi mx : XA} {e s len c : Nat} {k1 k2 k3 : IntKind} {a b m : Int} (hx : evA st.sl x = some (.oslc e sz s len c)) (ha : evA st.sl lo = some (.d (.int k1 a))) (hb : evA st.sl hi = some (.d (.int k2 b))) (hm : evA st.sl mx = some (.d (.int k3 m)))
    (h0 : 0 ≤ a) (h1 : a ≤ b) (h2 : b ≤ m) (h3 : m ≤ c) : QStep C st (.slc sz x (some lo) (some hi) (some mx)) .dead := by
  intro op hf ac w β S
  simp only [fits] at hf
  split at hf
  · rename_i t y l h mm ho
    simp only [Bool.and_eq_true] at hf
    obtain ⟨⟨⟨⟨g1, g2⟩, g3⟩, g4⟩, g5⟩ := hf
    obtain ⟨yl, rfl, hyl⟩ := fitO_some g3
    obtain ⟨yh, rfl, hyh⟩ := fitO_some g4
    obtain ⟨ym, rfl, hym⟩ := fitO_some g5
    have v := AR_of_fitA S g2 hx
    have vl := AR_of_fitA S hyl ha
    have vh := AR_of_fitA S hyh hb
    have vm := AR_of_fitA S hym hm
    rw [AR] at v
    rw [AR, DR] at vl vh vm
    obtain ⟨ad, v1, v2, v3⟩ := v
    split at g1
    · rename_i el hel
      refine ⟨.slice (if m.toNat = a.toNat then ad else ad.map (·.add (a.toNat * sz))) (b.toNat - a.toNat) (m.toNat - a.toNat), by rw [AR]; trivial, fun w' _ => ?_⟩
      have e1 : a ≤ ((b.toNat : Nat) : Int) := by omega
      have e2 : b ≤ ((m.toNat : Nat) : Int) := by omega
      have hb0 : 0 ≤ b := by omega
      have hm0 : 0 ≤ m := by omega
      simp only [execOp, ho, Instr.sliceAt, Sem.run_bind, run_underlying (sliceOf_some hel), Result.andThen_ok, Instr.slice, v1, Option.map_some, Instr.sliceBounds, vl, vh, vm, Sem.run_pure, sliceBound_run hm0 h3, sliceBound_run hb0 e2, sliceBound_run h0 e1, szIs_some g1]
    · cases g1
  · cases hf
end Go.AM

namespace Go.AM
theorem lit_data {C : Cx} {st : St} {a : Act} {w : World} {β : Names} (S : SatB C st a w β) {sz : Nat} {rows : List (List D)} {us : Array Value} {e : TypeId} (hr : RowsR C.X β w sz rows us) (hl : us.size = rows.length * sz) :
    DR { w with heap := w.heap.push (.cells us e) } (okf C.X β) (.sl sz rows) (.slice (some ⟨w.heap.size, 0, none⟩) rows.length rows.length) := by
  let w' : World := { w with heap := w.heap.push (.cells us e) }
  have hs : w'.heap.size = w.heap.size + 1 := by simp [w']
  have hsame : ∀ b, b < w.heap.size → w'.heap[b]? = w.heap[b]? := fun b hb => by simp [w', Array.getElem?_push]; omega
  have hnew : okf C.X β w.heap.size := ⟨fun h => by
    rcases h with h | ⟨e, j, h⟩
    · have := S.xlt _ h; have := S.fr.size; omega
    · have := S.hr.hlt e j _ h; omega, fun k hk => by have := S.hr.lt _ _ hk; omega⟩
  let X2 : Nat → Prop := fun b => C.X b ∨ ownd β b
  let β2 : Names := ⟨fun k => if k = 0 then some w.heap.size else none, fun _ _ => none⟩
  have hX2 : ∀ b, XH X2 β2 b → X2 b := fun b h => h.elim id (fun ⟨_, _, h⟩ => by cases h)
  have K : Keep (okf C.X β) (okf X2 β2) w w' := ⟨by omega, fun b _ hb => hsame b hb, fun b ho hb => ⟨fun h => (hX2 b h).elim (fun h => ho.1 (.inl h)) (fun h => by obtain ⟨k, hk⟩ := ownd_own1 h; exact okf_own1 ho k hk), fun k hk => by
    simp only [β2] at hk; split at hk
    · cases hk; omega
    · cases hk⟩⟩
  have H2 : HR X2 β2 [(0, .rows sz rows)] w' := {
    inj := fun k k' b p q => by
      simp only [β2] at p q
      split at p
      · split at q
        · omega
        · cases q
      · cases p
    lt := fun k b p => by
      simp only [β2] at p
      split at p
      · cases p; omega
      · cases p
    notX := fun k b p h => by
      simp only [β2] at p
      split at p
      · cases p; exact (hX2 _ h).elim (fun h => hnew.1 (.inl h)) (fun h => by obtain ⟨k, hk⟩ := ownd_own1 h; exact okf_own1 hnew k hk)
      · cases p
    hlt := fun _ _ _ h => by cases h
    hinj := fun _ _ _ _ _ h => by cases h
    hX := fun _ _ _ h => by cases h
    own := fun k ob hk => by
      rw [get_cons] at hk
      split at hk
      · rename_i h0; subst h0; cases hk
        exact ⟨us, e, (0, 0), heap_push_new, thaws_none _ _, by omega, hr.mono K⟩
      · simp [get] at hk }
  have hA : AR X2 β2 w' (.osl 0 sz 0 rows.length) (.slice (some ⟨w.heap.size, 0, none⟩) rows.length rows.length) := by
    rw [AR]
    exact ⟨some ⟨w.heap.size, 0, none⟩, rows.length, rfl, Nat.le_refl _, .inr ⟨w.heap.size, us, e, (0, 0), rfl, by simp, heap_push_new, by simp [hl]⟩⟩
  have := osl_lend (ok' := okf C.X β) H2 (fun b ⟨p1, p2⟩ => ⟨fun h => h.elim (fun h => p1 (.inl (.inl h))) (fun h => p1 (.inl (.inr (.inr h)))), fun k hk => p1 (.inl (.inr (.inl ⟨k, hk⟩)))⟩) (fun k b hk hb => by
    simp only [β2] at hb
    split at hb
    · cases hb; exact hnew
    · cases hb) (get_cons_self _ _ _) (show 0 + rows.length ≤ rows.length by omega) hA
  rw [List.drop_zero, List.take_length] at this
  exact this
theorem e_bsliceD {C : Cx} {sl : List (Nat × AV)} {own : List (Nat × OB)} {d sz : Nat} {xs : List XA} {rows : List (List D)} (hr : evRows sl sz xs = some rows) :
    EStep C ⟨sl, own⟩ (some d) (.bslice sz xs) ⟨(d, .d (.sl sz rows)) :: sl, own⟩ := by
  intro o ho hd hf a w β S
  have hd := hd _ rfl
  simp only [fits] at hf
  split at hf
  · rename_i t len ps hop
    simp only [Bool.and_eq_true, decide_eq_true_eq] at hf
    obtain ⟨⟨⟨⟨h3, h4⟩, h5⟩, h6⟩, h7⟩ := hf
    have h4 := Nat.eq_of_beq_eq_true h4
    subst h4
    have h7 := Nat.le_of_ble_eq_true h7
    split at h3
    · rename_i e he
      simp only [Bool.and_eq_true] at h3
      obtain ⟨h8, h9⟩ := h3
      split at h9
      · rename_i ti hti
        obtain ⟨z, hz⟩ := Option.isSome_iff_exists.1 h9
        have hzv : (zeroValue e).run C.P w = .ok z w := by simp [zeroValue, typeInfo, hti, hz]
        have main : ∀ zc : Array Value, ∃ us : List Value, Instr.fill (fun i => some (i * sz, sz)) ((Array.range (xs.length * sz)).map (zc[· % zc.size]!)) (ps.map fun x => (x.1, a.eval x.2)).toList = some us.toArray ∧ us.length = xs.length * sz ∧ RowsR C.X β w sz rows us.toArray ∧ rows.length = xs.length := by
          intro zc
          have := bslice_fill S (sz := sz) ps.toList xs 0 rows [] ((Array.range (xs.length * sz)).map (zc[· % zc.size]!)).toList h5 hr (by simp) (by simp)
          simp only [List.nil_append, Array.toArray_toList] at this
          rw [Array.toList_map]
          exact this
        have fin : ∀ us : List Value, us.length = xs.length * sz → RowsR C.X β w sz rows us.toArray → rows.length = xs.length →
            SatB C ⟨(d, .d (.sl sz rows)) :: sl, own⟩ (a.put (some d) (.slice (some ⟨w.heap.size, 0, none⟩) xs.length xs.length)) { w with heap := w.heap.push (.cells us.toArray e) } β := by
          intro us q1 q2 q3
          have X : Ext w { w with heap := w.heap.push (.cells us.toArray e) } := ⟨rfl, rfl, rfl, by simp, fun b hb => by simp [Array.getElem?_push]; omega⟩
          refine (S.ext X).put hd ?_
          rw [AR, ← q3]
          exact lit_data S q2 (by simp [q1, q3])
        have hz1 : (sizeOf e).run C.P w = .ok sz w := szIs_some h8 w
        have e1 : (ps.map fun x : Nat × Operand => match x with | (i, x) => (i, a.eval x)) = ps.map fun x => (x.1, a.eval x.2) := rfl
        by_cases hlen : xs.length * sz = 0
        · obtain ⟨us, q1, q2, q3, q4⟩ := main #[]
          refine ⟨_, _, _, ?_, .inr ⟨_, rfl, fin us q2 q3 q4⟩⟩
          simp only [execOp, hop, Instr.buildSlice, Sem.run_bind, run_underlying (sliceOf_some he), Result.andThen_ok, hz1]
          rw [if_neg (by omega)]
          simp only [hlen, if_true, Sem.run_pure, Sem.run_bind, Result.andThen_ok]
          rw [e1]
          rw [hlen] at q1
          rw [q1]
          simp [newRow, newObj, Sem.run]
        · obtain ⟨us, q1, q2, q3, q4⟩ := main z.cells
          refine ⟨_, _, _, ?_, .inr ⟨_, rfl, fin us q2 q3 q4⟩⟩
          simp only [execOp, hop, Instr.buildSlice, Sem.run_bind, run_underlying (sliceOf_some he), Result.andThen_ok, hz1]
          rw [if_neg (by omega)]
          simp only [hlen, if_false, Sem.run_pure, Sem.run_bind, Result.andThen_ok, hzv]
          rw [e1, q1]
          simp [newRow, newObj, Sem.run]
      · cases h9
    · cases h3
  · cases hf
theorem e_bsliceZ {C : Cx} {sl : List (Nat × AV)} {own : List (Nat × OB)} {d sz : Nat} :
    EStep C ⟨sl, own⟩ (some d) (.bslice sz []) ⟨(d, .zs sz) :: sl, own⟩ := by
  obtain ⟨xs, hxs⟩ : ∃ xs : List XA, xs = [] := ⟨_, rfl⟩
  obtain ⟨rows, hr⟩ : ∃ rows, evRows sl sz xs = some rows := ⟨[], by rw [hxs]; rfl⟩
  rw [← hxs]
  intro o ho hd hf a w β S
  have hd := hd _ rfl
  simp only [fits] at hf
  split at hf
  · rename_i t len ps hop
    simp only [Bool.and_eq_true, decide_eq_true_eq] at hf
    obtain ⟨⟨⟨⟨h3, h4⟩, h5⟩, h6⟩, h7⟩ := hf
    have h4 := Nat.eq_of_beq_eq_true h4
    subst h4
    have h7 := Nat.le_of_ble_eq_true h7
    split at h3
    · rename_i e he
      simp only [Bool.and_eq_true] at h3
      obtain ⟨h8, h9⟩ := h3
      split at h9
      · rename_i ti hti
        obtain ⟨z, hz⟩ := Option.isSome_iff_exists.1 h9
        have hzv : (zeroValue e).run C.P w = .ok z w := by simp [zeroValue, typeInfo, hti, hz]
        have main : ∀ zc : Array Value, ∃ us : List Value, Instr.fill (fun i => some (i * sz, sz)) ((Array.range (xs.length * sz)).map (zc[· % zc.size]!)) (ps.map fun x => (x.1, a.eval x.2)).toList = some us.toArray ∧ us.length = xs.length * sz ∧ RowsR C.X β w sz rows us.toArray ∧ rows.length = xs.length := by
          intro zc
          have := bslice_fill S (sz := sz) ps.toList xs 0 rows [] ((Array.range (xs.length * sz)).map (zc[· % zc.size]!)).toList h5 hr (by simp) (by simp)
          simp only [List.nil_append, Array.toArray_toList] at this
          rw [Array.toList_map]
          exact this
        have fin : ∀ us : List Value, us.length = xs.length * sz → RowsR C.X β w sz rows us.toArray → rows.length = xs.length →
            SatB C ⟨(d, .zs sz) :: sl, own⟩ (a.put (some d) (.slice (some ⟨w.heap.size, 0, none⟩) xs.length xs.length)) { w with heap := w.heap.push (.cells us.toArray e) } β := by
          intro us q1 q2 q3
          have X : Ext w { w with heap := w.heap.push (.cells us.toArray e) } := ⟨rfl, rfl, rfl, by simp, fun b hb => by simp [Array.getElem?_push]; omega⟩
          refine (S.ext X).put hd ?_
          rw [AR, hxs]
          exact ⟨_, rfl⟩
        have hz1 : (sizeOf e).run C.P w = .ok sz w := szIs_some h8 w
        have e1 : (ps.map fun x : Nat × Operand => match x with | (i, x) => (i, a.eval x)) = ps.map fun x => (x.1, a.eval x.2) := rfl
        by_cases hlen : xs.length * sz = 0
        · obtain ⟨us, q1, q2, q3, q4⟩ := main #[]
          refine ⟨_, _, _, ?_, .inr ⟨_, rfl, fin us q2 q3 q4⟩⟩
          simp only [execOp, hop, Instr.buildSlice, Sem.run_bind, run_underlying (sliceOf_some he), Result.andThen_ok, hz1]
          rw [if_neg (by omega)]
          simp only [hlen, if_true, Sem.run_pure, Sem.run_bind, Result.andThen_ok]
          rw [e1]
          rw [hlen] at q1
          rw [q1]
          simp [newRow, newObj, Sem.run]
        · obtain ⟨us, q1, q2, q3, q4⟩ := main z.cells
          refine ⟨_, _, _, ?_, .inr ⟨_, rfl, fin us q2 q3 q4⟩⟩
          simp only [execOp, hop, Instr.buildSlice, Sem.run_bind, run_underlying (sliceOf_some he), Result.andThen_ok, hz1]
          rw [if_neg (by omega)]
          simp only [hlen, if_false, Sem.run_pure, Sem.run_bind, Result.andThen_ok, hzv]
          rw [e1, q1]
          simp [newRow, newObj, Sem.run]
      · cases h9
    · cases h3
  · cases hf
theorem loc_bsliceD {C : Cx} {slm : List (Nat × AV)} {ownm : List (Nat × OB)} {d sz : Nat} {xs : List XA} {rows : List (List D)} (hr : evRows slm sz xs = some rows) : Loc C slm ownm (.op (some d) (.bslice sz xs)) ⟨d, .d (.sl sz rows), []⟩ := by
  intro sl own h1 h2 _
  exact ax_e (e_bsliceD (evRows_mono h1 hr)) (ax_nil ⟨fun t y h => h, fun e ob h => h⟩)
theorem loc_bsliceZ {C : Cx} {slm : List (Nat × AV)} {ownm : List (Nat × OB)} {d sz : Nat} : Loc C slm ownm (.op (some d) (.bslice sz [])) ⟨d, .zs sz, []⟩ := by
  intro sl own h1 h2 _
  exact ax_e e_bsliceZ (ax_nil ⟨fun t y h => h, fun e ob h => h⟩)
/-- Onto what holds nothing: a new own slice. -/
theorem loc_appZ {C : Cx} {slm : List (Nat × AV)} {ownm : List (Nat × OB)} {d sz bytes z n : Nat} {zs : List K} {x y : XA} {v : AV} {rows rs : List (List D)} (hx : evA slm x = some (.zs z))
    (hy : evA slm y = some v) (hsrc : ∀ sl own, (∀ e ob, get ownm e = some ob → get own e = some ob) → SrcOK C ⟨sl, own⟩ sz v rows) (hb : (2 * rows.length + 256) * bytes ≤ 2 ^ 48) (hn : rows.length = n) (hrs : rows = rs) : Loc C slm ownm (.op (some d) (.app sz bytes zs x y)) ⟨d, .osl d sz 0 n, [(d, .rows sz rs)]⟩ := by
  subst hn; subst hrs
  intro sl own h1 h2 hf
  obtain ⟨f1, f2, f3⟩ := freeN_one hf
  exact ax_e (e_app_zs (evA_mono h1 hx) (evA_mono h1 hy) (hsrc sl own h2) f1 f2 f3 hb) (ax_nil ⟨fun t y h => h, fun e ob h => h⟩)
theorem bnd0 {n bytes : Nat} (h2 : n ≤ 2097152) (hb : bytes ≤ 1024) : (2 * n + 256) * bytes ≤ 2 ^ 48 := by
  have h3 : (2 * n + 256) * bytes ≤ (2 * 2097152 + 256) * 1024 := Nat.mul_le_mul (by omega) hb
  omega
end Go.AM

namespace Go.AM
/-- Whatever order is picked, until the first n have come up. -/
def PQ (P : Program) (ops : Array Oper) (C : World → Prop) (n : Nat) (Q : Act → Prop) : Nat → Array Bool → Act → Prop
  | 0, listed, a => Q a ∧ ∀ j, j < n → listed.getD j false = true
  | f + 1, listed, a => (∃ j, j < n ∧ listed.getD j false = false) ∧ Region.ready .any ops listed ≠ [] ∧ ∀ i ∈ Region.ready .any ops listed, qOp P ops C i (PQ P ops C n Q f (listed.setIfInBounds i true)) a
section
variable {P : Program} {ops : Array Oper} {C : World → Prop} {deps : List (List Nat)} {n : Nat}
theorem unl {listed : Array Bool} {j : Nat} (h : listed.getD j true = false) : listed.getD j false = false ∧ j < listed.size := by
  rcases Nat.lt_or_ge j listed.size with h' | h'
  · exact ⟨by simp [h'] at h ⊢; exact h, h'⟩
  · simp [Array.getElem?_eq_none h'] at h
theorem ready_lt (hD : depsOK ops deps n = true) {listed : Array Bool} (hc : Closed deps ops listed) (hu : ∃ j, j < n ∧ listed.getD j false = false) {i : Nat} (hi : i ∈ Region.ready .any ops listed) : i < n := by
  rcases Nat.lt_or_ge i n with h | h
  · exact h
  · obtain ⟨j, hj, hjl⟩ := hu
    obtain ⟨_, o, ho, _⟩ := mem_ready.1 hi
    obtain ⟨ds, h4, _, _, h5⟩ := depsOK_spec hD ho
    have := ready_deps hD hc hi j (by unfold depOf; rw [h4]; exact membN_iff.2 (h5 h j (by omega)))
    rw [hjl] at this; cases this
theorem PQ_first {Q : Act → Prop} (hD : depsOK ops deps n = true) {i : Nat} {oi : Oper} {v : Value} (hi : ops[i]? = some oi) (hin : i < n) (hsel : ∀ (j : Nat) (o : Oper) cs b, ops[j]? = some o → o.op ≠ .select cs b) :
    ∀ (fuel : Nat) (listed : Array Bool) (a : Act), Closed deps ops listed →
      (∀ j oj, ops[j]? = some oj → j ≠ i → listed.getD j true = false → (∀ e ∈ oj.after, Region.binds .any e = true → e.on ≠ i) → oi.apart ops oj = true) →
      i ∈ Region.ready .any ops listed → YieldsIn P ops C oi v a →
      PQ P ops C n Q fuel (listed.setIfInBounds i true) (a.put oi.dst v) → PQ P ops C n Q (fuel + 1) listed a := by
  intro fuel
  induction fuel with
  | zero =>
    intro listed a hc _ hr hy H
    have hiu := unl (mem_ready.1 hr).1
    refine ⟨⟨i, hin, hiu.1⟩, fun h => (by rw [h] at hr; cases hr), fun j hj => ?_⟩
    by_cases hji : j = i
    · subst hji; exact hy.qOp hi H
    · exfalso
      have hjn := ready_lt hD hc ⟨i, hin, hiu.1⟩ hj
      have hju := unl (mem_ready.1 hj).1
      have h1 := H.2 j hjn
      rw [getD_set hiu.2] at h1
      have h2 := hju.1
      simp only [h2, Bool.or_false] at h1
      exact hji (Nat.eq_of_beq_eq_true h1).symm
  | succ fuel ih =>
    intro listed a hc hfree hr hy H
    have hiu := unl (mem_ready.1 hr).1
    refine ⟨⟨i, hin, hiu.1⟩, fun h => (by rw [h] at hr; cases hr), fun j hj => ?_⟩
    by_cases hji : j = i
    · subst hji; exact hy.qOp hi H
    · have h1 := H.2.2 j (ready_mono hj hji)
      obtain ⟨hjun, oj, hoj, hall⟩ := mem_ready.1 hj
      have hnot : ∀ e ∈ oj.after, Region.binds .any e = true → e.on ≠ i := fun e he hb heq => by
        have h1 := hall e he hb
        have h0 := (mem_ready.1 hr).1
        rw [heq] at h1
        rcases Nat.lt_or_ge i listed.size with h' | h'
        · simp [h'] at h0 h1; rw [h0] at h1; cases h1
        · simp [Array.getElem?_eq_none h'] at h1
      have h2 := qOp_put hoj (hfree j oj hoj hji hjun hnot) (fun cs b => hsel i oi cs b hi) (fun cs b => hsel j oj cs b hoj) hy h1
      have hfree' : ∀ k ok, ops[k]? = some ok → k ≠ i → (listed.setIfInBounds j true).getD k true = false →
          (∀ e ∈ ok.after, Region.binds .any e = true → e.on ≠ i) → oi.apart ops ok = true := fun k ok hk hki hun hno => by
        refine hfree k ok hk hki ?_ hno
        by_cases hjk : j = k
        · subst hjk; exact hjun
        · rw [getD_set_ne true hjk] at hun; exact hun
      refine qOp_mono (fun a' h3 => ih (listed.setIfInBounds j true) a' (hc.step hD hj) hfree' (ready_mono hr (Ne.symm hji)) h3.1 ?_) h2
      rw [Array.setIfInBounds_comm _ _ hji]
      exact h3.2
theorem PQ_lex {Q : Act → Prop} (hD : depsOK ops deps n = true) (hs : Region.noSelect ops = true) : ∀ (l : List Oper) (k : Nat) (listed : Array Bool) (a : Act), Closed deps ops listed → (∀ j, j < k → listed.getD j false = true) → k + l.length = n → (∀ j, j < l.length → l[j]? = ops[k + j]?) →
    lexPF ops l.length k listed = true → wpQuiet P ops C Q l a → PQ P ops C n Q l.length listed a
  | [], k, listed, a, hc, hk, hn, _, _, h => ⟨h, fun j hj => hk j (by simp at hn; omega)⟩
  | o :: l, k, listed, a, hc, hk, hn, hl, hB, h => by
    have h0 : ops[k]? = some o := by have := hl 0 (by simp); simpa using this.symm
    simp only [List.length_cons, lexPF, Bool.and_eq_true] at hB
    obtain ⟨⟨hr, hf⟩, hB'⟩ := hB
    have hst : qOp P ops C k (wpQuiet P ops C Q l) a := by unfold qOp; simp only [h0]; exact h
    obtain ⟨v, hy, hK⟩ := yieldsIn_of_qOp h0 hst
    have hr : k ∈ Region.ready .any ops listed := by simpa using hr
    have hks := (unl (mem_ready.1 hr).1).2
    exact PQ_first hD h0 (by simp at hn; omega) (Region.noSelect_spec hs) l.length listed a hc (Region.free_spec h0 hf) hr hy
      (PQ_lex hD hs l (k + 1) _ _ (hc.step hD hr) (fun j hj => by
        rw [getD_set hks]
        by_cases hjk : k = j
        · subst hjk; simp
        · rw [hk j (by omega), Bool.or_true]) (by simp at hn; omega) (fun j hj => by have := hl (j + 1) (by simpa using hj); simpa [Nat.add_assoc, Nat.add_comm 1 j] using this) hB' hK)
theorem wpAny_of_PQ {Q : Act → Prop} {Q' : Exit → Act → World → Prop} {M : Nat} (hD : depsOK ops deps n = true)
    (hQ : ∀ listed a w, C w → Closed deps ops listed → (∀ j, listed.getD j false = true ↔ j < n) → Q a → wpAny P .any ops Q' M listed a w) :
    ∀ (f : Nat) (listed : Array Bool) (a : Act) (w : World), C w → Closed deps ops listed → (∀ k, n ≤ k → listed.getD k false = false) → PQ P ops C n Q f listed a → wpAny P .any ops Q' (f + M) listed a w
  | 0, listed, a, w, hw, hc, hk, h => by
    rw [Nat.zero_add]
    exact hQ listed a w hw hc (fun j => ⟨fun hj => (Nat.lt_or_ge j n).elim id (fun h' => by rw [hk j h'] at hj; cases hj), h.2 j⟩) h.1
  | f + 1, listed, a, w, hw, hc, hk, h => by
    rw [show f + 1 + M = (f + M) + 1 from by omega]
    refine ⟨fun h0 => absurd h0 h.2.1, fun i hi => ?_⟩
    have hin := ready_lt hD hc h.1 hi
    have his := (unl (mem_ready.1 hi).1).2
    exact wpOp_of_qOp hw (fun a' w' hw' hq => wpAny_of_PQ hD hQ f _ a' w' hw' (hc.step hD hi) (fun k hk' => by
      rw [getD_set his, hk k hk', Bool.or_false]
      cases hb : Nat.beq i k with
      | false => rfl
      | true => have := Nat.eq_of_beq_eq_true hb; omega) hq) (h.2.2 i hi)
end
theorem cx_drawP {C : Cx} {st : St} {Kn : Kont} {Ke : List (Nat × Kont)} {Kr : Kont} {deps : List (List Nat)} {hd tl : List XI}
    (h : AXI C true [] hd st (fun st' => AXI C false [] tl st' Kn)) : AX C (.drawP deps hd tl) st Kn Ke Kr := by
  intro c hf a w S
  simp only [fitsC] at hf
  split at hf
  · rename_i id ops
    unfold fitsDP at hf
    split at hf
    · rename_i n hn
      simp only [Bool.and_eq_true] at hf
      obtain ⟨⟨⟨⟨f2, f3⟩, f4⟩, f5⟩, f6⟩ := hf
      have f2 := sizeIs_eq f2
      have hns : n ≤ ops.size := fitIs_le _ _ _ _ _ _ _ _ f2
      refine wp_region_any f3 ?_
      have hq := h ops _ (Rn.quiet C ops (fun a w => ∃ st', AXI C false [] tl st' Kn ∧ Sat C st' a w)) 0 0 n hn [] a w S (fun g hg => by cases hg)
        (fun st' a' w' hw hK S' _ => by
          have := hw rfl
          subst this
          exact fun w'' hw'' => ⟨st', hK, S'.ext hw''⟩)
      unfold WQ at hq
      rw [List.append_nil, Nat.sub_zero] at hq
      have hl : (ops.toList.take n).length = n := by simp; omega
      have e : (List.range' 0 n).filterMap (fun i => ops[i]?) = ops.toList.take n := by
        have := filterMap_range' (ops.toList.take n) 0 (fun i => ops[i]?) (fun j hj => by
          rw [hl] at hj
          simp [List.getElem?_take, hj])
        rwa [hl] at this
      rw [e] at hq
      have hc0 : Closed deps ops (Array.replicate ops.size false) := ⟨by simp, fun i j hi _ => by
        rcases Nat.lt_or_ge i ops.size with h' | h'
        · simp [h'] at hi
        · simp [Array.getElem?_eq_none (xs := Array.replicate ops.size false) (i := i) (by simpa using h')] at hi⟩
      have hz : ∀ k, (Array.replicate ops.size false).getD k false = false := fun k => by
        rcases Nat.lt_or_ge k ops.size with h' | h'
        · simp [h']
        · simp [Array.getElem?_eq_none (xs := Array.replicate ops.size false) (i := k) (by simpa using h')]
      have hpq := PQ_lex (C := Ext w) (deps := deps) (n := n) f4 f5 (ops.toList.take n) 0 (Array.replicate ops.size false) a hc0 (fun j hj => by omega) (by rw [hl]; omega) (fun j hj => by
        rw [hl] at hj
        simp [List.getElem?_take, hj]) (by rw [hl]; exact f6) hq
      rw [hl] at hpq
      have := wpAny_of_PQ (C := Ext w) (Q' := lift C Kn Ke Kr) (M := ops.size - n) f4 (fun listed a' w' hw' hc hl' hq' => by
        obtain ⟨st', hK, S'⟩ := hq' w' hw'
        refine wpAny_forced f4 (ops.size - n) n listed a' w' (Nat.le_refl _) (by omega) hc hl' ?_
        have := hK ops _ (Rn.text C ops (lift C Kn Ke Kr)) 0 n ops.size f2 [] a' w' S' (fun g hg => by cases hg) (fun st'' a'' w'' _ hK S'' _ => ⟨st'', hK, S''⟩)
        simpa using this) n _ a _ (Ext.drew w) hc0 (fun k _ => hz k) hpq
      rw [show n + (ops.size - n) = ops.size from by omega] at this
      exact this
    · cases hf
  · cases hf
theorem lit_dataC {C : Cx} {st : St} {a : Act} {w : World} {β : Names} (S : SatB C st a w β) {sz : Nat} {rows : List (List D)} {us : Array Value} {e : TypeId} {c : Nat} (hr : RowsR C.X β w sz rows us) (hl : us.size = c * sz) (hc : rows.length ≤ c) :
    DR { w with heap := w.heap.push (.cells us e) } (okf C.X β) (.sl sz rows) (.slice (some ⟨w.heap.size, 0, none⟩) rows.length c) := by
  let w' : World := { w with heap := w.heap.push (.cells us e) }
  have hs : w'.heap.size = w.heap.size + 1 := by simp [w']
  have hsame : ∀ b, b < w.heap.size → w'.heap[b]? = w.heap[b]? := fun b hb => by simp [w', Array.getElem?_push]; omega
  have hnew : okf C.X β w.heap.size := ⟨fun h => by
    rcases h with h | ⟨e, j, h⟩
    · have := S.xlt _ h; have := S.fr.size; omega
    · have := S.hr.hlt e j _ h; omega, fun k hk => by have := S.hr.lt _ _ hk; omega⟩
  let X2 : Nat → Prop := fun b => C.X b ∨ ownd β b
  let β2 : Names := ⟨fun k => if k = 0 then some w.heap.size else none, fun _ _ => none⟩
  have hX2 : ∀ b, XH X2 β2 b → X2 b := fun b h => h.elim id (fun ⟨_, _, h⟩ => by cases h)
  have K : Keep (okf C.X β) (okf X2 β2) w w' := ⟨by omega, fun b _ hb => hsame b hb, fun b ho hb => ⟨fun h => (hX2 b h).elim (fun h => ho.1 (.inl h)) (fun h => by obtain ⟨k, hk⟩ := ownd_own1 h; exact okf_own1 ho k hk), fun k hk => by
    simp only [β2] at hk; split at hk
    · cases hk; omega
    · cases hk⟩⟩
  have H2 : HR X2 β2 [(0, .rows sz rows)] w' := {
    inj := fun k k' b p q => by
      simp only [β2] at p q
      split at p
      · split at q
        · omega
        · cases q
      · cases p
    lt := fun k b p => by
      simp only [β2] at p
      split at p
      · cases p; omega
      · cases p
    notX := fun k b p h => by
      simp only [β2] at p
      split at p
      · cases p; exact (hX2 _ h).elim (fun h => hnew.1 (.inl h)) (fun h => by obtain ⟨k, hk⟩ := ownd_own1 h; exact okf_own1 hnew k hk)
      · cases p
    hlt := fun _ _ _ h => by cases h
    hinj := fun _ _ _ _ _ h => by cases h
    hX := fun _ _ _ h => by cases h
    own := fun k ob hk => by
      rw [get_cons] at hk
      split at hk
      · rename_i h0; subst h0; cases hk
        exact ⟨us, e, (0, 0), heap_push_new, thaws_none _ _, by rw [hl]; exact Nat.mul_le_mul_right _ hc, hr.mono K⟩
      · simp [get] at hk }
  have hA : AR X2 β2 w' (.osl 0 sz 0 rows.length) (.slice (some ⟨w.heap.size, 0, none⟩) rows.length c) := by
    rw [AR]
    exact ⟨some ⟨w.heap.size, 0, none⟩, c, rfl, hc, .inr ⟨w.heap.size, us, e, (0, 0), rfl, by simp, heap_push_new, by simp [hl]⟩⟩
  have := osl_lend (ok' := okf C.X β) H2 (fun b ⟨p1, p2⟩ => ⟨fun h => h.elim (fun h => p1 (.inl (.inl h))) (fun h => p1 (.inl (.inr (.inr h)))), fun k hk => p1 (.inl (.inr (.inl ⟨k, hk⟩)))⟩) (fun k b hk hb => by
    simp only [β2] at hb
    split at hb
    · cases hb; exact hnew
    · cases hb) (get_cons_self _ _ _) (show 0 + rows.length ≤ rows.length by omega) hA
  rw [List.drop_zero, List.take_length] at this
  exact this
section
variable {C : Cx} {sl : List (Nat × AV)} {own : List (Nat × OB)}
theorem e_appZD {d sz bytes z : Nat} {zs : List K} {x y : XA} {v : AV} {rows : List (List D)} (hx : evA sl x = some (.zs z))
    (hy : evA sl y = some v) (hsrc : SrcOK C ⟨sl, own⟩ sz v rows) (hb : (2 * rows.length + 256) * bytes ≤ 2 ^ 48) :
    EStep C ⟨sl, own⟩ (some d) (.app sz bytes zs x y) ⟨(d, .d (.sl sz rows)) :: sl, own⟩ := by
  intro o ho hd hf a w β S
  have hd := hd _ rfl
  obtain ⟨p, q, t, u, el, d2, hop, ht, hz, hby, hzero, hsz1, hb1, hu, hd2, hp, hq⟩ := app_fit hf
  have h1 := AR_of_fitA S hp hx
  have h2 := AR_of_fitA S hq hy
  obtain ⟨hn, vs, hvl, hvr, hfc, hones⟩ := hsrc a w β _ S h2
  rw [AR] at h1
  obtain ⟨base, h3⟩ := h1
  obtain ⟨ti, hti, htb⟩ := byIs_some hby
  have hres : ∀ (r : Value) (w' : World), (Builtin.append_ #[t, u] o.type #[a.eval p, a.eval q]).run C.P w = .ok r w' → (execOp a.eval o).run C.P w = .ok (.value r) w' := by
    intro r w' hr
    simp only [execOp, hop, resolve, List.map_toArray, List.map_cons, List.map_nil, Sem.run_bind, Sem.run_pure, Result.andThen_ok, invoke, builtin, hr]
  rw [h3] at hres
  by_cases hroom : rows.length = 0
  · have hrn : rows = [] := List.eq_nil_of_length_eq_zero hroom
    subst hrn
    have hvn : vs = [] := List.eq_nil_of_length_eq_zero (by rw [hvl]; simp)
    have hrun := append_fits (sLen := 0) (sCap := 0) (base := base) ht hz hu hd2 (hn w) (by have := hfc w (Ext.refl w) 0 (by simp); simpa [hvn] using this) (by simp) (w' := w) (vs := []) (by
      cases base with
      | none => rfl
      | some ad => rfl) o.type
    exact ⟨_, w, β, hres _ _ hrun, .inr ⟨_, rfl, S.put hd (by rw [AR, DR]; exact ⟨base, 0, rfl, Nat.le_refl _, .inl rfl⟩)⟩⟩
  · have ho' : ∀ w', Ext w w' → (Builtin.firstCells sz 0 (.slice base 0 0)).run C.P w' = .ok ([] : List Value).toArray w' := fun w' _ => by
      cases base with
      | none => simp [Builtin.firstCells]
      | some ad => simp [Builtin.firstCells, loadCells, loadCellsFrom]
    have hx' : ∀ w', Ext w w' → (Builtin.firstCells sz rows.length (a.eval q)).run C.P w' = .ok vs.toArray w' := fun w' hw' => by
      have := hfc w' hw' rows.length (Nat.le_refl _)
      rw [← hvl, List.take_length] at this
      exact this
    obtain ⟨z0, zv, hz1, hz2, hz3, hz4⟩ := zeroIs_some hzero
    rw [hti] at hz1; cases hz1
    have hbd : Builtin.nextslicecap (0 + rows.length) 0 * bytes ≤ 2 ^ 48 := Nat.le_trans (Nat.mul_le_mul_right _ (nextcap_le _ _ (by omega))) (by rw [Nat.zero_add]; exact hb)
    obtain ⟨newCap, w1, rest, c1, c2, c3, c4, c5⟩ := append_grows (sLen := 0) (sCap := 0) (base := base) ht hz hti htb hb1 hz2 hu hd2 (hn w) hx' ho' (by omega) hbd o.type
    refine ⟨_, _, β, hres _ _ c5, .inr ⟨_, rfl, ?_⟩⟩
    have S1 := S.ext c2
    have hw1 : w1.heap.size = w.heap.size := by rw [c3]
    obtain ⟨rl, hrl1, hrl2⟩ := zeroCells_toList zv.cells (newCap - (0 + rows.length))
    have hrest : old_rest [] vs rest = (vs ++ rl).toArray := by unfold old_rest; rw [c4, hrl1]; simp
    have hzc : zv.cells.size = sz := by
      have e1 := szIs_some hz w
      have e2 : (sizeOf el).run C.P w = .ok ti.size w := by simp [sizeOf, typeInfo, hti]
      rw [e2] at e1; simp at e1
      have := AL_len (fitZ_AL (X := C.X) (β := β) (w := w) hz3)
      simp at this
      omega
    have hsz2 : (vs ++ rl).length = newCap * sz := by
      simp only [List.length_append, hvl, hrl2, hzc]
      rw [← Nat.add_mul]
      congr 1; omega
    have hRR : RowsR C.X β w sz rows (vs ++ rl).toArray := RowsR_more hvr rl
    have hpush : ({ w1 with heap := w1.heap.push (.cells (([] : List Value).toArray ++ vs.toArray ++ rest) el) } : World) = { w1 with heap := w1.heap.push (.cells (vs ++ rl).toArray el) } := by
      have : ([] : List Value).toArray ++ vs.toArray ++ rest = (vs ++ rl).toArray := hrest
      rw [this]
    rw [hpush]
    have X : Ext w1 { w1 with heap := w1.heap.push (.cells (vs ++ rl).toArray el) } := ⟨rfl, rfl, rfl, by simp, fun b hb => by simp [Array.getElem?_push]; omega⟩
    refine (S1.ext X).put hd ?_
    rw [AR, Nat.zero_add]
    have q := lit_dataC (c := newCap) (e := el) S1 (hRR.mono ⟨c2.size, fun b _ hb => c2.same b hb, fun b hb _ => hb⟩) (by simp only [List.size_toArray, hsz2]) (by omega)
    rw [hw1] at q
    exact q
end
theorem loc_appZD {C : Cx} {slm : List (Nat × AV)} {ownm : List (Nat × OB)} {d sz bytes z : Nat} {zs : List K} {x y : XA} {v : AV} {rows rs : List (List D)} (hx : evA slm x = some (.zs z))
    (hy : evA slm y = some v) (hsrc : ∀ sl own, (∀ e ob, get ownm e = some ob → get own e = some ob) → SrcOK C ⟨sl, own⟩ sz v rows) (hb : (2 * rows.length + 256) * bytes ≤ 2 ^ 48) (hrs : rows = rs) : Loc C slm ownm (.op (some d) (.app sz bytes zs x y)) ⟨d, .d (.sl sz rs), []⟩ := by
  subst hrs
  intro sl own h1 h2 hf
  exact ax_e (e_appZD (evA_mono h1 hx) (evA_mono h1 hy) (hsrc sl own h2) hb) (ax_nil ⟨fun t y h => h, fun e ob h => h⟩)
end Go.AM

namespace Go.AM
abbrev Str := List UInt8
def strRow (s : Str) : List D := [.str s]
def strs (xs : List Str) : D := .sl 1 (xs.map strRow)
/-- What 'sz..' counts. -/
def szF (left : Int) (n : Nat) : Int := if (n : Int) ≤ left then left - n else -1
theorem take_succ {α : Type} {xs : List α} {k : Nat} (h : k < xs.length) : xs.take (k + 1) = xs.take k ++ [xs[k]] := by
  rw [List.take_add_one, List.getElem?_eq_getElem h]; rfl
def digs : Nat → Nat → Str → Str
  | 0, _, out => out
  | f + 1, n, out => if n = 0 then out else digs f (n / 10) (UInt8.ofNat (48 + n % 10) :: out)
def mkT (k : Nat) : Str := if k = 0 then [109, 48] else 109 :: digs 20 k []
theorem eq_of_take {α : Type} {xs ys : List α} (hl : xs.length = ys.length) (h : xs.take xs.length = ys.take xs.length) : xs = ys := by
  rw [List.take_length] at h
  rw [h, hl, List.take_length]
theorem take_step {α : Type} {xs ys : List α} {k : Nat} (hx : k < xs.length) (hy : k < ys.length) (h : xs.take k = ys.take k) (he : xs[k] = ys[k]) : xs.take (k + 1) = ys.take (k + 1) := by
  rw [take_succ hx, take_succ hy, h, he]
structure Page where
  lsn : Int
  slots : List Str
def Page.av (p : Page) : AV := .agg [int p.lsn, .d (strs p.slots)]
theorem lend_whole {own : List (Nat × OB)} {e sz len : Nat} {rs : List (List D)} (h : get own e = some (.rows sz rs)) (hl : len = rs.length) : Lend own (.osl e sz 0 len) (.sl sz rs) :=
  .osl h (by omega) (by rw [List.drop_zero, hl, List.take_length])
end Go.AM

namespace Go.AM
def inR (n lo hi : Int) : Bool := decide (lo ≤ n) && decide (n ≤ hi)
def Page.zero : Page := ⟨0, []⟩
def pageOK (p : Page) : Bool := inR p.lsn 0 1000 && decide (p.slots.length = 4) && !p.slots.any (fun s => decide (30 < s.length))
def idxOf {α : Type} (p : α → Bool) : List α → Nat → Int
  | [], _ => -1
  | x :: xs, k => if p x then k else idxOf p xs (k + 1)
/-- Not found so far. -/
theorem idxOf_step {α : Type} {p : α → Bool} : ∀ {xs : List α} {k j : Nat}, (∀ i, i < k → ∀ x, xs[i]? = some x → p x = false) → idxOf p xs j = idxOf p (xs.drop k) (j + k)
  | xs, 0, j, _ => by simp
  | [], k + 1, j, _ => by simp [idxOf]
  | x :: xs, k + 1, j, h => by
    rw [idxOf, h 0 (by omega) x rfl, List.drop_succ_cons, if_neg (by simp)]
    rw [idxOf_step (k := k) (j := j + 1) (fun i hi y hy => h (i + 1) (by omega) y (by simpa using hy))]
    congr 1; omega
theorem idxOf_hit {α : Type} {p : α → Bool} {xs : List α} {k : Nat} (hk : k < xs.length) (h : ∀ i, i < k → ∀ x, xs[i]? = some x → p x = false) (hp : p xs[k] = true) : idxOf p xs 0 = k := by
  rw [idxOf_step h, List.drop_eq_getElem_cons hk, idxOf, if_pos hp]; simp
theorem idxOf_none {α : Type} {p : α → Bool} {xs : List α} (h : ∀ i, i < xs.length → ∀ x, xs[i]? = some x → p x = false) : idxOf p xs 0 = -1 := by
  rw [idxOf_step h, List.drop_length, idxOf]
theorem before_step {α : Type} {p : α → Bool} {xs : List α} {k : Nat} (hk : k < xs.length) (h : ∀ i, i < k → ∀ x, xs[i]? = some x → p x = false) (hp : p xs[k] = false) : ∀ i, i < k + 1 → ∀ x, xs[i]? = some x → p x = false := by
  intro i hi x hx
  rcases Nat.lt_or_ge i k with h' | h'
  · exact h i h' x hx
  · have : i = k := by omega
    subst this
    rw [List.getElem?_eq_getElem hk] at hx; cases hx; exact hp
theorem any_idxOf {α : Type} {p : α → Bool} : ∀ {xs : List α} {k : Nat}, decide (0 ≤ idxOf p xs k) = xs.any p
  | [], k => by simp [idxOf]
  | x :: xs, k => by
    rw [idxOf, List.any_cons]
    cases hp : p x with
    | true => simp
    | false => rw [if_neg (by simp), any_idxOf, Bool.false_or]
end Go.AM

namespace Go.AM
theorem digs0 : ∀ {f : Nat} {o : Str}, digs f 0 o = o
  | 0, o => rfl
  | f + 1, o => by rw [digs, if_pos rfl]
theorem byteConv {n : Nat} (h : n < 256) : AV.d (.int .u8 (wr .u8 (n : Int))) = .d (.int .u8 ((UInt8.ofNat n).toNat : Int)) := by
  have : (UInt8.ofNat n).toNat = n := by simp [Nat.mod_eq_of_lt h]
  rw [this]
  unfold wr; simp [IntKind.wrap, IntKind.bits, IntKind.signed]; omega
noncomputable def eqb {α : Type} (a b : α) : Bool := @decide (a = b) (Classical.propDecidable _)
theorem eqb_t {α : Type} {a b : α} (h : a = b) : eqb a b = true := by unfold eqb; simp [h]
theorem eqb_f {α : Type} {a b : α} (h : a ≠ b) : eqb a b = false := by unfold eqb; simp [h]
theorem eqb_iff {α : Type} {a b : α} : eqb a b = true ↔ a = b := by unfold eqb; simp
theorem eqb_rfl {α : Type} (a : α) : eqb a a = true := eqb_t rfl
end Go.AM

namespace Go.AM
section
variable {P : Program} {t e : TypeId} {ds : List D}
theorem hasC_int {k : IntKind} (h : P.underlying t = some (.int k)) (hc : HasC P t ds) : ∃ n, ds = [.int k n] ∧ (Lit.int k n).wf = true := by
  cases hc with
  | int n h' hw => rw [h] at h'; cases h'; exact ⟨n, rfl, hw⟩
  | bool b h' => rw [h] at h'; cases h'
  | str s h' hl => rw [h] at h'; cases h'
  | nilp h' => rw [h] at h'; cases h'
  | ptr h' hr => rw [h] at h'; cases h'
  | slice rows h' hl hr => rw [h] at h'; cases h'
  | struct h' hf => rw [h] at h'; cases h'
theorem hasC_bool (h : P.underlying t = some .bool) (hc : HasC P t ds) : ∃ b, ds = [.bool b] := by
  cases hc with
  | bool b h' => exact ⟨b, rfl⟩
  | int n h' hw => rw [h] at h'; cases h'
  | str s h' hl => rw [h] at h'; cases h'
  | nilp h' => rw [h] at h'; cases h'
  | ptr h' hr => rw [h] at h'; cases h'
  | slice rows h' hl hr => rw [h] at h'; cases h'
  | struct h' hf => rw [h] at h'; cases h'
theorem hasC_str (h : P.underlying t = some .string) (hc : HasC P t ds) : ∃ s : Str, ds = [.str s] ∧ s.length ≤ 9223372036854775807 := by
  cases hc with
  | str s h' hl => exact ⟨s, rfl, hl⟩
  | bool b h' => rw [h] at h'; cases h'
  | int n h' hw => rw [h] at h'; cases h'
  | nilp h' => rw [h] at h'; cases h'
  | ptr h' hr => rw [h] at h'; cases h'
  | slice rows h' hl hr => rw [h] at h'; cases h'
  | struct h' hf => rw [h] at h'; cases h'
theorem hasC_slice (h : P.underlying t = some (.slice e)) (hc : HasC P t ds) : ∃ rows, ds = [.sl (P.cellsOf e) rows] ∧ rows.length ≤ 9223372036854775807 ∧ HasRs P e rows := by
  cases hc with
  | slice rows h' hl hr => rw [h] at h'; cases h'; exact ⟨rows, rfl, hl, hr⟩
  | bool b h' => rw [h] at h'; cases h'
  | int n h' hw => rw [h] at h'; cases h'
  | str s h' hl => rw [h] at h'; cases h'
  | nilp h' => rw [h] at h'; cases h'
  | ptr h' hr => rw [h] at h'; cases h'
  | struct h' hf => rw [h] at h'; cases h'
theorem hasC_struct {fs : Array Field} (h : P.underlying t = some (.struct fs)) (hc : HasC P t ds) : HasFs P fs.toList ds := by
  cases hc with
  | struct h' hf => rw [h] at h'; cases h'; exact hf
  | nilp h' => rw [h] at h'; cases h'
  | ptr h' hr => rw [h] at h'; cases h'
  | slice rows h' hl hr => rw [h] at h'; cases h'
  | bool b h' => rw [h] at h'; cases h'
  | int n h' hw => rw [h] at h'; cases h'
  | str s h' hl => rw [h] at h'; cases h'
theorem hasFs_cons {f : Field} {fs : List Field} (h : HasFs P (f :: fs) ds) : ∃ a b, ds = a ++ b ∧ HasC P f.type a ∧ HasFs P fs b := by
  cases h with
  | cons h1 h2 => exact ⟨_, _, rfl, h1, h2⟩
theorem hasFs_nil (h : HasFs P [] ds) : ds = [] := by cases h; rfl
theorem hasRs_map {α : Type} {f : α → List D} {ok : α → Prop} (hf : ∀ ds, HasC P e ds → ∃ x, ds = f x ∧ ok x) : ∀ {rows : List (List D)}, HasRs P e rows → ∃ xs : List α, rows = xs.map f ∧ ∀ x ∈ xs, ok x
  | [], _ => ⟨[], rfl, fun x hx => by cases hx⟩
  | r :: rs, h => by
    cases h with
    | cons h1 h2 =>
      obtain ⟨x, rfl, h3⟩ := hf r h1
      obtain ⟨xs, rfl, h4⟩ := hasRs_map hf h2
      exact ⟨x :: xs, rfl, fun y hy => by
        rcases List.mem_cons.1 hy with rfl | hy
        · exact h3
        · exact h4 y hy⟩
end
end Go.AM
