/- The layer, third part: from contracts to rows, more steps, draws that turn own blocks. -/
import Derived.Test.YtnkaifkejkabhaaB
import GoSem.ClaimChange
import Derived.DataReads
import Derived.Carry
import Derived.ProofKit
import Derived.OpenShut
import Derived.JoinedCond
import Derived.Lib.Overlaps
set_option linter.unusedVariables false
set_option linter.unusedSimpArgs false
/- AM, part 28: what a reading of an argument tells: data of its type. -/
namespace Go.AM

mutual
/-- Cells of a type. -/
inductive HasC (P : Program) : TypeId → List D → Prop
  | bool {t : TypeId} (b : Bool) (h : P.underlying t = some .bool) : HasC P t [.bool b]
  | int {t : TypeId} {k : IntKind} (n : Int) (h : P.underlying t = some (.int k)) (hw : (Lit.int k n).wf = true) : HasC P t [.int k n]
  | str {t : TypeId} (s : List UInt8) (h : P.underlying t = some .string) (hl : s.length ≤ 9223372036854775807) : HasC P t [.str s]
  | nilp {t e : TypeId} (h : P.underlying t = some (.pointer e)) : HasC P t [.nilp]
  | ptr {t e : TypeId} {r : List D} (h : P.underlying t = some (.pointer e)) (hr : HasC P e r) : HasC P t [.ip r]
  | slice {t e : TypeId} (rows : List (List D)) (h : P.underlying t = some (.slice e)) (hl : rows.length ≤ 9223372036854775807) (hr : HasRs P e rows) : HasC P t [.sl (P.cellsOf e) rows]
  | struct {t : TypeId} {fs : Array Field} {ds : List D} (h : P.underlying t = some (.struct fs)) (hf : HasFs P fs.toList ds) : HasC P t ds
inductive HasRs (P : Program) : TypeId → List (List D) → Prop
  | nil {e : TypeId} : HasRs P e []
  | cons {e : TypeId} {r : List D} {rs : List (List D)} (h : HasC P e r) (hs : HasRs P e rs) : HasRs P e (r :: rs)
inductive HasFs (P : Program) : List Field → List D → Prop
  | nil : HasFs P [] []
  | cons {f : Field} {fs : List Field} {a b : List D} (h : HasC P f.type a) (hs : HasFs P fs b) : HasFs P (f :: fs) (a ++ b)
end

def fieldsOK (P : Program) (Ts : List TypeId) : List Field → Nat → Nat → Bool
  | [], off, n => Nat.beq off n
  | f :: fs, off, n => Nat.beq f.offset off && membN f.type Ts && fieldsOK P Ts fs (off + P.cellsOf f.type) n
/-- The types 'Ts' are read through themselves alone. -/
def closedT (P : Program) (Ts : List TypeId) : Bool :=
  Ts.all fun t => match P.underlying t with
    | some .bool | some (.int _) | some .string => true
    | some (.pointer e) | some (.slice e) => membN e Ts && Nat.ble 1 (P.cellsOf e)
    | some (.struct fs) => fieldsOK P Ts fs.toList 0 (P.cellsOf t)
    | _ => false

section
variable {P : Program} {Ts : List TypeId} {w : World} {ok : Nat → Prop}

theorem DL_app : ∀ {a b : List D} {u v : List Value}, DL w ok a u → DL w ok b v → DL w ok (a ++ b) (u ++ v)
  | [], b, u, v, h1, h2 => by rw [DL] at h1; subst h1; exact h2
  | x :: a, b, u, v, h1, h2 => by
    rw [DL] at h1
    obtain ⟨y, r, rfl, h3, h4⟩ := h1
    rw [List.cons_append, DL]
    exact ⟨y, r ++ v, rfl, h3, DL_app h4 h2⟩
theorem DRow_of : ∀ {ds : List D} {vs : List Value} {b o : Nat}, DL w ok ds vs → (∀ i, i < vs.length → w.cell? ⟨b, o + i, none⟩ = vs[i]?) → DRow w ok ds b o
  | [], vs, b, o, _, _ => by rw [DRow]; trivial
  | x :: ds, vs, b, o, h, hc => by
    rw [DL] at h
    obtain ⟨y, r, rfl, h3, h4⟩ := h
    rw [DRow]
    refine ⟨⟨y, by simpa using hc 0 (by simp), h3⟩, DRow_of h4 (fun i hi => ?_)⟩
    have := hc (i + 1) (by simp; omega)
    rw [show o + (i + 1) = o + 1 + i from by omega] at this
    simpa using this
theorem add_block (a : Addr) (n : Nat) : (a.add n).block = a.block := by unfold Addr.add; split <;> rfl
theorem add_off (a : Addr) (n : Nat) : (a.add n).off = a.off + n := by
  unfold Addr.add; split
  · rename_i h; rw [h]; rfl
  · rfl
theorem spot_none {a : Addr} {v : Value} (h : w.cell? a = some v) : a.spot = none := by
  unfold World.cell? at h
  split at h
  · split at h
    · cases h
    · rename_i hs; simpa using hs
  · cases h

theorem trod_D {H : Type} {enc : TypeId × Value → H} {base : Nat} {sp : Nat → Bool} {held : Bool} (hT : closedT P Ts = true) (hok : ∀ b, ok b) : ∀ (fuel : Nat) (t : TypeId) (cs : List Value) (x : DataW H × List MemPlace), t ∈ Ts →
    DataW.trod enc P w base sp held fuel t cs = some x → ∃ ds, DL w ok ds cs ∧ HasC P t ds
  | 0, t, cs, x, _, h => by simp [DataW.trod] at h
  | fuel + 1, t, cs, x, ht, h => by
    have hc := List.all_eq_true.1 hT t ht
    have key : ∀ (e : TypeId) (b : Nat) (a : Addr) (y : DataW H × List MemPlace), e ∈ Ts → 0 < P.cellsOf e → (w.cells? b a (P.cellsOf e)).bind (DataW.trod enc P w base sp held fuel e) = some y →
        ∃ ds, HasC P e ds ∧ ds.length = P.cellsOf e ∧ a.spot = none ∧ a.block < w.heap.size ∧ DRow w ok ds a.block a.off := by
      intro e b a y he hpos hy
      rw [Option.bind_eq_some_iff] at hy
      obtain ⟨vs, h1, h2⟩ := hy
      obtain ⟨ds, h3, h4⟩ := trod_D hT hok fuel e vs y he h2
      obtain ⟨_, h5, h6⟩ := World.cells?_some h1
      have h0 := h6 0 hpos
      have hne : ∃ v, vs[0]? = some v := ⟨vs[0]'(by omega), by simp [show 0 < vs.length from by omega]⟩
      obtain ⟨v0, hv0⟩ := hne
      rw [hv0] at h0
      have hs : a.spot = none := by simpa [Addr.add] using spot_none h0
      refine ⟨ds, h4, by rw [← DL_len h3, h5], hs, by have := cell_lt h0; simpa [Addr.add] using this, DRow_of h3 (fun i hi => ?_)⟩
      have := h6 i (by omega)
      rw [← this]
      obtain ⟨ab, ao, as⟩ := a
      simp only at hs
      subst hs
      unfold Addr.add
      split
      · rename_i hz; rw [hz]; rfl
      · rfl
    unfold DataW.trod at h
    split at h
    · rename_i b hu
      exact ⟨[.bool b], by simp [DL, DR], .bool b hu⟩
    · rename_i k k' n hu
      split at h
      · rename_i hk
        obtain ⟨rfl, hw⟩ := hk
        exact ⟨[.int _ n], by simp [DL, DR], .int n hu hw⟩
      · cases h
    · rename_i hu; rw [hu] at hc; cases hc
    · rename_i s hu
      split at h
      · rename_i hs
        refine ⟨[.str s.data.toList], by simp [DL, DR], .str _ hu ?_⟩
        have : maxLen = 9223372036854775807 := by decide
        rw [Array.length_toList, ← this]; exact hs
      · cases h
    · rename_i e hu
      exact ⟨[.nilp], by simp [DL, DR], .nilp hu⟩
    · rename_i e a hu
      rw [Option.map_eq_some_iff] at h
      obtain ⟨y, hy, _⟩ := h
      rw [hu] at hc
      simp only [Bool.and_eq_true] at hc
      obtain ⟨ds, h1, h2, h3, h4, h5⟩ := key e base a y (membN_iff.1 hc.1) (Nat.le_of_ble_eq_true hc.2) hy
      refine ⟨[.ip ds], ?_, .ptr hu h1⟩
      rw [DL]
      refine ⟨_, [], rfl, ?_, by rw [DL]⟩
      rw [DR]
      obtain ⟨ab, ao, as⟩ := a
      simp only at h3 h4 h5
      subst h3
      exact ⟨ab, ao, rfl, .inr ⟨hok _, h5⟩⟩
    · rename_i e hu
      refine ⟨[.sl (P.cellsOf e) []], ?_, .slice [] hu (by simp) .nil⟩
      rw [DL]
      refine ⟨_, [], rfl, ?_, by rw [DL]⟩
      rw [DR]
      exact ⟨none, 0, rfl, Nat.le_refl _, .inl rfl⟩
    · rename_i e a len cap hu
      rw [hu] at hc
      simp only [Bool.and_eq_true] at hc
      have he := membN_iff.1 hc.1
      have hpos := Nat.le_of_ble_eq_true hc.2
      simp only at h
      split at h
      · rename_i hb
        rw [Option.bind_eq_some_iff] at h
        obtain ⟨els, h1, _⟩ := h
        have hmax : maxLen = 9223372036854775807 := by decide
        have each : ∀ i, i < len → ∃ y, (w.cells? base (a.add (i * P.cellsOf e)) (P.cellsOf e)).bind (DataW.trod enc P w base sp held fuel e) = some y := by
          intro i hi
          have hlen := mapM_some_length h1
          have := mapM_some_get h1 i i (by simp [hi])
          have h2 : ∃ y, els[i]? = some y := ⟨els[i]'(by simp at hlen; omega), by simp at hlen; simp [show i < els.length from by omega]⟩
          obtain ⟨y, hy⟩ := h2
          exact ⟨y, by rw [this, hy]⟩
        have rows : ∀ n k, k + n = len → ∃ rs : List (List D), rs.length = n ∧ HasRs P e rs ∧ DRows w ok (P.cellsOf e) rs a.block (a.off + k * P.cellsOf e) := by
          intro n
          induction n with
          | zero => intro k _; exact ⟨[], rfl, .nil, by rw [DRows]; trivial⟩
          | succ n ih =>
            intro k hk
            obtain ⟨y, hy⟩ := each k (by omega)
            obtain ⟨ds, g1, g2, g3, g4, g5⟩ := key e base _ y he hpos hy
            obtain ⟨rs, g6, g7, g8⟩ := ih (k + 1) (by omega)
            refine ⟨ds :: rs, by simp [g6], .cons g1 g7, ?_⟩
            rw [DRows]
            refine ⟨g2, by rw [add_block, add_off] at g5; exact g5, ?_⟩
            rw [show a.off + k * P.cellsOf e + P.cellsOf e = a.off + (k + 1) * P.cellsOf e from by rw [Nat.succ_mul]; omega]
            exact g8
        obtain ⟨rs, r1, r2, r3⟩ := rows len 0 (by omega)
        refine ⟨[.sl (P.cellsOf e) rs], ?_, .slice rs hu (by rw [r1]; omega) r2⟩
        rw [DL]
        refine ⟨_, [], rfl, ?_, by rw [DL]⟩
        rw [DR, r1]
        refine ⟨some a, cap, rfl, hb.2.1, ?_⟩
        rcases Nat.eq_zero_or_pos len with hz | hz
        · left; exact List.eq_nil_of_length_eq_zero (by omega)
        · right
          obtain ⟨y, hy⟩ := each 0 hz
          obtain ⟨ds, g1, g2, g3, g4, g5⟩ := key e base _ y he hpos hy
          obtain ⟨ab, ao, as⟩ := a
          rw [Nat.zero_mul] at g3
          rw [add_block] at g4
          have g3 : as = none := g3
          subst g3
          exact ⟨ab, ao, rfl, hok _, g4, by simpa using r3⟩
      · cases h
    · rename_i cs _ _ fs hu
      split at h
      · rename_i hlen
        rw [hu] at hc
        rw [Option.map_eq_some_iff] at h
        obtain ⟨xs, hxs, _⟩ := h
        have go : ∀ (fl : List Field) (off : Nat) (ys : List (DataW H × List MemPlace)), fieldsOK P Ts fl off (P.cellsOf t) = true → off ≤ P.cellsOf t →
            (fl.mapM fun f => DataW.trod enc P w base sp held fuel f.type ((cs.drop f.offset).take (P.cellsOf f.type))) = some ys → ∃ ds, DL w ok ds (cs.drop off) ∧ HasFs P fl ds := by
          intro fl
          induction fl with
          | nil =>
            intro off ys hf _ _
            rw [fieldsOK] at hf
            have := Nat.eq_of_beq_eq_true hf
            refine ⟨[], ?_, .nil⟩
            rw [DL, List.drop_eq_nil_of_le (by omega)]
          | cons f fl ih =>
            intro off ys hf hle hm
            simp only [fieldsOK, Bool.and_eq_true] at hf
            obtain ⟨⟨f1, f2⟩, f3⟩ := hf
            have f1 := Nat.eq_of_beq_eq_true f1
            rw [List.mapM_cons] at hm
            simp only [Option.bind_eq_bind, Option.bind_eq_some_iff] at hm
            obtain ⟨y, hy, zs, hzs, _⟩ := hm
            have hge : ∀ (fl : List Field) (o : Nat), fieldsOK P Ts fl o (P.cellsOf t) = true → o ≤ P.cellsOf t := by
              intro fl
              induction fl with
              | nil => intro o h; rw [fieldsOK] at h; have := Nat.eq_of_beq_eq_true h; omega
              | cons g gl ih => intro o h; simp only [fieldsOK, Bool.and_eq_true] at h; have := ih _ h.2; omega
            obtain ⟨da, d1, d2⟩ := trod_D hT hok fuel f.type _ y (membN_iff.1 f2) hy
            obtain ⟨db, d3, d4⟩ := ih (off + P.cellsOf f.type) zs f3 (hge fl _ f3) hzs
            refine ⟨da ++ db, ?_, .cons d2 d4⟩
            rw [f1] at d1
            have := DL_app d1 d3
            rw [← List.drop_drop] at this
            rwa [List.take_append_drop] at this
        obtain ⟨ds, d1, d2⟩ := go fs.toList 0 xs hc (Nat.zero_le _) hxs
        exact ⟨ds, by simpa using d1, .struct hu d2⟩
      · cases h
    all_goals first | (cases h; done) | (rename_i hu; rw [hu] at hc; cases hc)
end
end Go.AM

/- AM, part 29: from a contract of a law to its row. -/
namespace Go.AM
open Go.ChangeShapes Go.RowKit

def HasAll (P : Program) : List TypeId → List (List D) → Prop
  | [], ds => ds = []
  | t :: ts, ds => ∃ d r, ds = d :: r ∧ HasC P t d ∧ HasAll P ts r
def argAV (P : Program) (t : TypeId) (ds : List D) : AV :=
  match P.underlying t with
  | some (.struct _) => .agg (ds.map .d)
  | _ => match ds with
    | [x] => .d x
    | _ => .dead
def argsAV (P : Program) : List TypeId → List (List D) → List AV
  | t :: ts, d :: ds => argAV P t d :: argsAV P ts ds
  | _, _ => []

section
variable {H : Type} {enc : TypeId × Value → H} {P : Program} {Ts : List TypeId} {w : World}

theorem hasC_one {t : TypeId} {ds : List D} (h : HasC P t ds) (hn : ∀ fs, P.underlying t ≠ some (.struct fs)) : ∃ x, ds = [x] := by
  cases h with
  | bool b h => exact ⟨_, rfl⟩
  | int n h hw => exact ⟨_, rfl⟩
  | str s h hl => exact ⟨_, rfl⟩
  | nilp h => exact ⟨_, rfl⟩
  | ptr h hr => exact ⟨_, rfl⟩
  | slice rows h hl hr => exact ⟨_, rfl⟩
  | struct h hf => exact absurd h (hn _)
theorem argAV_one {t : TypeId} {x : D} (hn : ∀ fs, P.underlying t ≠ some (.struct fs)) : argAV P t [x] = .d x := by
  unfold argAV
  split
  · rename_i h; exact absurd h (hn _)
  · rfl
theorem argAV_struct {t : TypeId} {fs : Array Field} {ds : List D} (h : P.underlying t = some (.struct fs)) : argAV P t ds = .agg (ds.map .d) := by
  unfold argAV; rw [h]

theorem arg_AR (hT : closedT P Ts = true) {t : TypeId} (ht : t ∈ Ts) {v : Value} {d : DataW H} {ps : List MemPlace} {b : Nat} {sp : Nat → Bool} {r : Reach} {b0 : Nat} (hval : Value.okWide P w r b0 t v) (h : DataW.Trod enc P w b sp true t v d ps) :
    ∃ ds, HasC P t ds ∧ AR (fun _ => False) noN w (argAV P t ds) v := by
  obtain ⟨fuel, h⟩ := h
  obtain ⟨ds, h1, h2⟩ := trod_D hT (ok := okf (fun _ => False) noN) (fun b => ⟨fun h => h, fun e he => by cases he⟩) fuel t _ _ ht h
  refine ⟨ds, h2, ?_⟩
  have hc := List.all_eq_true.1 hT t ht
  by_cases hs : ∃ fs, P.underlying t = some (.struct fs)
  · obtain ⟨fs, hu⟩ := hs
    unfold Value.okWide at hval
    rw [hu] at hval
    obtain ⟨cs, rfl, _, _⟩ := hval
    rw [argAV_struct hu, AR]
    exact ⟨cs, rfl, DL_AL h1⟩
  · have hn : ∀ fs, P.underlying t ≠ some (.struct fs) := fun fs h => hs ⟨fs, h⟩
    obtain ⟨x, rfl⟩ := hasC_one h2 hn
    rw [argAV_one hn, AR]
    have hv : ∀ cs, v ≠ .agg cs := by
      rintro cs rfl
      cases hu : P.underlying t with
      | none => rw [hu] at hc; cases hc
      | some k =>
        rw [hu] at hc
        cases k <;> first | (cases hc; done) | (simp [Value.okWide, hu, Cell.okWide, Cell.ok] at hval; done) | exact absurd hu (hn _)
    rw [DL] at h1
    obtain ⟨y, r, h3, h4, h5⟩ := h1
    have : v.cells.toList = [v] := by
      cases v <;> first | rfl | exact absurd rfl (hv _)
    rw [this] at h3
    cases h3
    exact h4

theorem args_AR (hT : closedT P Ts = true) {b : Nat} {sp : Nat → Bool} {r : Reach} {b0 : Nat} : ∀ {ts : List TypeId} {vs : List Value} {ds : List (DataW H)} {ps : List MemPlace}, (∀ t ∈ ts, t ∈ Ts) →
    (∀ (j : Nat) t v, ts[j]? = some t → vs[j]? = some v → Value.okWide P w r b0 t v) → DataW.TrodAll enc P w b sp true ts vs ds ps →
    ds.length = ts.length ∧ ∃ rows, HasAll P ts rows ∧ AL (fun _ => False) noN w (argsAV P ts rows) vs
  | [], vs, ds, ps, _, _, h => by
    obtain ⟨rfl, rfl, rfl⟩ := trodAll_nil h
    exact ⟨rfl, [], rfl, by rw [argsAV, AL]; intro t ts d ds h; cases h⟩
  | t :: ts, vs, ds, ps, hin, hval, h => by
    obtain ⟨v, vs', d, ds', p, q, h1, h2, rfl, h3, h4⟩ := trodAll_cons h
    subst h1 h2
    obtain ⟨g1, rows, g2, g3⟩ := args_AR hT (fun t ht => hin t (List.mem_cons_of_mem _ ht)) (fun j t v hj hv => hval (j + 1) t v (by simpa using hj) (by simpa using hv)) h4
    obtain ⟨ds, g4, g5⟩ := arg_AR hT (hin t List.mem_cons_self) (hval 0 t v rfl rfl) h3
    exact ⟨by simp [g1], ds :: rows, ⟨ds, rows, rfl, g4, g2⟩, by rw [argsAV, AL]; exact ⟨v, vs', rfl, g5, g3⟩⟩

/-- Reading the arguments again. -/
theorem again_trod {W W' : World} (hl : laidOutB P = true) (hb : Below W.heap.size W W') {sp : Nat → Bool} : ∀ {ts : List TypeId} {vs : List Value} {ds : List (DataW H)} {ps : List MemPlace}, (∀ t ∈ ts, P.readableRec t = true ∧ t < P.types.size) →
    DataW.TrodAll enc P W 0 (fun _ => true) true ts vs ds ps → (∀ x ∈ ps, x.block < W.heap.size) → (∀ x ∈ ps, sp x.block = true) → DataW.TrodAll enc P W' 0 sp true ts vs ds ps
  | [], vs, ds, ps, _, h, _, _ => by
    obtain ⟨rfl, rfl, rfl⟩ := trodAll_nil h
    exact trodAll_mk0
  | t :: ts, vs, ds, ps, hin, h, hlt, hsp => by
    obtain ⟨v, vs', d, ds', p, q, h1, h2, rfl, h3, h4⟩ := trodAll_cons h
    subst h1 h2
    obtain ⟨g1, g2⟩ := hin t List.mem_cons_self
    exact trodAll_cons_mk (WideElems.Trod_stays hl g1 g2 h3 (fun x hx => hb.same (hlt x (List.mem_append_left _ hx))) (fun x hx => hsp x (List.mem_append_left _ hx)))
      (again_trod hl hb (fun t ht => hin t (List.mem_cons_of_mem _ ht)) h4 (fun x hx => hlt x (List.mem_append_right _ hx)) (fun x hx => hsp x (List.mem_append_right _ hx)))

def typesOK (P : Program) (Ts : List TypeId) (ts : List TypeId) : Bool := ts.all fun t => membN t Ts && P.readableRec t && Nat.ble (t + 1) P.types.size

theorem law_post {f : Func} {s : ChangeSpec} {W W' : World} {args : Array Value} {ds gs : List (DataW H)} {before : List MemPlace} {tb : TypeId} (hl : laidOutB P = true) (hty : typesOK P Ts f.params.toList = true) (hvar : s.vars = [])
    (hrt : f.resultTypes = #[tb]) (hb : P.underlying tb = some .bool) (hs : s.fn H (ds ++ gs) = { results := [.lit (.bool true)], args := ds })
    (hW : DataW.Whole enc P f.params.toList s.vars false W args.toList ds gs before) (hg : Below W.heap.size W W') : s.post enc P f false true false false W args (.bool true) W' := by
  have hlt := hW.lt
  have hW' := hW
  obtain ⟨p, q, hA, hV, hpq, hz, hn⟩ := hW
  rw [hvar] at hV
  obtain ⟨rfl, rfl⟩ : gs = [] ∧ q = [] := by
    cases gs with
    | nil => exact ⟨rfl, hV⟩
    | cons g gs => exact hV.elim
  rw [List.append_nil] at hpq
  subst hpq
  have hin : ∀ t ∈ f.params.toList, P.readableRec t = true ∧ t < P.types.size := fun t ht => by
    have := List.all_eq_true.1 hty t ht
    simp only [Bool.and_eq_true] at this
    have h1 := Nat.le_of_ble_eq_true this.2
    exact ⟨this.1.2, h1⟩
  have hargs : ∀ sp : Nat → Bool, (∀ x ∈ before, sp x.block = true) → DataW.TrodAll enc P W' 0 sp true f.params.toList args.toList ds before := fun sp hsp => again_trod hl hg hin hA hlt hsp
  have hres : ∀ (b : Nat) (sp : Nat → Bool) (hd : Bool), DataW.TrodAll enc P W' b sp hd f.resultTypes.toList ((Value.bool true).resultList f.resultTypes.size) [.lit (.bool true)] [] := fun b sp hd => by
    rw [hrt]
    exact trodAll_cons_mk (shut_bool hb true) trodAll_mk0
  have hold : ∀ p ∈ before, (fun b => decide (b < W.heap.size)) p.block = true := fun p hp => by simpa using hlt p hp
  have hargs2 : ∀ sp : Nat → Bool, (∀ x ∈ before, sp x.block = true) → DataW.TrodAll enc P W' 0 sp true f.params.toList args.toList (s.fn H (ds ++ [])).args before := by rw [hs]; exact hargs
  have hres2 : ∀ (b : Nat) (sp : Nat → Bool) (hd : Bool), DataW.TrodAll enc P W' b sp hd f.resultTypes.toList ((Value.bool true).resultList f.resultTypes.size) (s.fn H (ds ++ [])).results [] := by rw [hs]; exact hres
  have hvars2 : ∀ sp : Nat → Bool, DataW.TrodVars enc P W' sp s.vars (s.fn H (ds ++ [])).vars [] := by rw [hs, hvar]; intro sp; rfl
  refine ⟨ds, [], before, [], before, [], hW', hres2 _ _ _, hargs2 _ hold, hvars2 _, World.keptBut_mono (fun p hp => ⟨hp, .inr (.inl hp)⟩) (hg.frame (· ∈ before)), fun _ => ?_⟩
  refine ⟨ok_one hrt rfl (okWide_bool_mk hb true), _, _, ([] ++ before) ++ [], ⟨[] ++ before, [], trodAll_append (hargs2 _ (fun _ _ => rfl)) (hres2 _ _ _), hvars2 _, rfl, ?_, ?_⟩, ?_⟩
  · intro b off hp
    have hp' : MemPlace.cell b off ∈ before := by simpa using hp
    have hbl := hlt _ hp'
    rw [hg.frozen (p := ⟨b, off, none⟩) hbl]
    exact hz b off hp'
  · intro ha; cases ha
  · intro p hp _
    simpa using hp

/-- From the contract of a law, for all that has the types of its parameters, to what its row asks. -/
theorem law_contract {f : FuncId} {fn : Func} {s : ChangeSpec} {tb : TypeId} (hT : closedT P Ts = true) (hl : laidOutB P = true) (hty : typesOK P Ts fn.params.toList = true) (hvar : s.vars = []) (hrt : fn.resultTypes = #[tb]) (hb : P.underlying tb = some .bool)
    (hcon : ∀ rows, HasAll P fn.params.toList rows → Con P noMv f (argsAV P fn.params.toList rows) [] (fun r h => r = bool true ∧ h = []))
    {W : World} {base : Nat} {args : Array Value} {ds gs : List (DataW H)} {before : List MemPlace} (hs : ds.length = fn.params.toList.length → s.fn H ds = { results := [.lit (.bool true)], args := ds })
    (hval : ∀ (j : Nat) t v, fn.params[j]? = some t → args[j]? = some v → Value.okWide P W .any base t v)
    (hW : DataW.Whole enc P fn.params.toList s.vars false W args.toList ds gs before) :
    Calls P f args W fun e W' => ∃ v, e = .returned v ∧ s.post enc P fn false true false false W args v W' := by
  have hW' := hW
  obtain ⟨p, q, hA, hV, hpq, hz, hn⟩ := hW
  rw [hvar] at hV
  have hgs : gs = [] := by
    cases gs with
    | nil => rfl
    | cons g gs => exact hV.elim
  subst hgs
  obtain ⟨h1, rows, h2, h3⟩ := args_AR hT (fun t ht => by
    have := List.all_eq_true.1 hty t ht
    simp only [Bool.and_eq_true] at this
    exact membN_iff.1 this.1.1) (fun j t v hj hv => hval j t v (by simpa using hj) (by simpa using hv)) hA
  have h4 := hcon rows h2 (fun _ => False) noN W args.toList (fun _ h => h.elim) (fun e b h => by cases h) ⟨fun e e' b h => (by cases h), fun e b h => (by cases h), fun e b h => (by cases h), fun e ob h => (by simp [get] at h)⟩ h3
  refine h4.mono ?_
  rintro e W' ⟨v, r, h', β', rfl, ⟨rfl, rfl⟩, hr, _, F, _⟩
  rw [AR, DR] at hr
  subst hr
  exact ⟨_, rfl, law_post hl hty hvar hrt hb (by rw [List.append_nil]; exact hs h1) hW' ⟨F.os, F.tape, F.output, F.size, fun b hb' => F.same b hb' (fun e h => by cases h)⟩⟩
end
end Go.AM

/- AM, part 30: more steps: arithmetic within its bounds, max and min, clear, rows told shorter. -/
namespace Go.AM
section
variable {C : Cx} {st : St}
theorem q_as {x : XOp} {r r' : AV} (h : QStep C st x r) (e : r = r') : QStep C st x r' := e ▸ h
theorem q_add {x y : XA} {a b : Int} (hx : evA st.sl x = some (int a)) (hy : evA st.sl y = some (int b)) (h : -9223372036854775808 ≤ a + b ∧ a + b ≤ 9223372036854775807) :
    QStep C st (.bin .add x y) (int (a + b)) := q_as (q_ibin hx hy rfl) (wi h.1 h.2)
theorem q_sub {x y : XA} {a b : Int} (hx : evA st.sl x = some (int a)) (hy : evA st.sl y = some (int b)) (h : -9223372036854775808 ≤ a - b ∧ a - b ≤ 9223372036854775807) :
    QStep C st (.bin .sub x y) (int (a - b)) := q_as (q_ibin hx hy rfl) (wi h.1 h.2)
theorem q_mul {x y : XA} {a b : Int} (hx : evA st.sl x = some (int a)) (hy : evA st.sl y = some (int b)) (h : -9223372036854775808 ≤ a * b ∧ a * b ≤ 9223372036854775807) :
    QStep C st (.bin .mul x y) (int (a * b)) := q_as (q_ibin hx hy rfl) (wi h.1 h.2)
theorem q_mod {x y : XA} {a b : Int} (hx : evA st.sl x = some (int a)) (hy : evA st.sl y = some (int b)) (h0 : 0 ≤ a) (h1 : 0 < b) :
    QStep C st (.bin .rem x y) (int (a % b)) := q_as (q_idiv hx hy rfl (by omega)) (by rw [Int.tmod_eq_emod_of_nonneg h0])
theorem ediv_bounds {a b : Int} (h0 : 0 ≤ a) (h1 : 0 < b) : 0 ≤ a / b ∧ a / b ≤ a := by
  refine ⟨Int.ediv_nonneg h0 (by omega), ?_⟩
  have h2 := Int.mul_ediv_add_emod a b
  have h3 := Int.emod_nonneg a (show b ≠ 0 by omega)
  have h4 : 0 ≤ a / b := Int.ediv_nonneg h0 (by omega)
  have h5 : (a / b) * 1 ≤ (a / b) * b := Int.mul_le_mul_of_nonneg_left (by omega) h4
  rw [Int.mul_comm b] at h2
  omega
theorem q_div {x y : XA} {a b : Int} (hx : evA st.sl x = some (int a)) (hy : evA st.sl y = some (int b)) (h0 : 0 ≤ a) (h2 : a ≤ 9223372036854775807) (h1 : 0 < b) :
    QStep C st (.bin .quo x y) (int (a / b)) := by
  refine q_as (q_idiv hx hy rfl (by omega)) ?_
  rw [Int.tdiv_eq_ediv_of_nonneg h0]
  have := ediv_bounds h0 h1
  exact wi (by omega) (by omega)
theorem q_negI {x : XA} {n : Int} (hx : evA st.sl x = some (int n)) (h : -9223372036854775807 ≤ n ∧ n ≤ 9223372036854775807) : QStep C st (.neg x) (int (-n)) :=
  q_as (q_neg hx) (by rw [wi (by omega) (by omega), Int.zero_sub])
/-- From a smaller kind, or the same. -/
theorem q_convI {x : XA} {k : IntKind} {n : Int} (hx : evA st.sl x = some (.d (.int k n))) (h : -9223372036854775808 ≤ n ∧ n ≤ 9223372036854775807) : QStep C st (.conv .i64 x) (int n) :=
  q_as (q_conv hx) (wi h.1 h.2)
theorem u8_lt (b : UInt8) : (b.toNat : Int) < 256 := by have := b.toNat_lt; omega
theorem q_convB {x : XA} {k : IntKind} {b : UInt8} (hx : evA st.sl x = some (.d (.int k (b.toNat : Int)))) : QStep C st (.conv .i64 x) (int b.toNat) :=
  q_convI hx (by have := b.toNat_lt; omega)
/-- To a byte. -/
def byteOf (n : Int) : UInt8 := UInt8.ofNat (n % 256).toNat
theorem byteOf_nat (n : Int) : ((byteOf n).toNat : Int) = n % 256 := by
  have h : 0 ≤ n % 256 ∧ n % 256 < 256 := by omega
  have : (byteOf n).toNat = (n % 256).toNat := by
    unfold byteOf
    rw [UInt8.toNat_ofNat']
    omega
  omega
theorem q_convU8 {x : XA} {k : IntKind} {n : Int} (hx : evA st.sl x = some (.d (.int k n))) : QStep C st (.conv .u8 x) (.d (.int .u8 ((byteOf n).toNat : Int))) :=
  q_as (q_conv hx) (by rw [byteOf_nat]; rfl)

theorem q_mx {big : Bool} {x y : XA} {k : IntKind} {a b : Int} (hx : evA st.sl x = some (.d (.int k a))) (hy : evA st.sl y = some (.d (.int k b))) :
    QStep C st (.mx big x y) (.d (.int k (if (if big then b > a else b < a) then b else a))) := by
  intro o hf ac w β S
  simp only [fits] at hf
  split at hf
  · rename_i bi args ts hop
    split at hf
    · rename_i p q h1
      simp only [Bool.and_eq_true] at hf
      obtain ⟨⟨h2, h3⟩, h4⟩ := hf
      have h3 := AR_of_fitA S h3 hx
      have h4 := AR_of_fitA S h4 hy
      rw [AR, DR] at h3 h4
      have hargs := list2 h1
      subst hargs
      refine ⟨_, by rw [AR, DR], fun w' _ => ?_⟩
      cases big <;> cases bi <;> simp at h2 <;>
        simp [execOp, hop, resolve, invoke, builtin, Builtin.max_, Builtin.min_, Builtin.max2, Builtin.min2, h3, h4]
    · cases hf
  · cases hf

/-- By an integer that is not below zero. -/
theorem q_ixI {sz : Nat} {x i : XA} {k : IntKind} {n : Int} {rows : List (List D)} {row : List D} (hx : evA st.sl x = some (.d (.sl sz rows))) (hi : evA st.sl i = some (.d (.int k n))) (h0 : 0 ≤ n)
    (hr : rows[n.toNat]? = some row) : QStep C st (.iadr sz x i) (.d (.ip row)) := q_iadr hx hi h0 hr
theorem q_ixoI {sz : Nat} {x i : XA} {k : IntKind} {n : Int} {e len : Nat} (hx : evA st.sl x = some (.osl e sz 0 len)) (hi : evA st.sl i = some (.d (.int k n))) (h0 : 0 ≤ n)
    (hr : n.toNat < len) : QStep C st (.iadr sz x i) (.rptr e sz n.toNat 0) := by
  have := q_iadr_osl (C := C) hx hi h0 (by omega)
  simpa using this
end

section
variable {C : Cx} {sl : List (Nat × AV)} {own : List (Nat × OB)}

theorem zeroCells_get (z : Array Value) (n p : Nat) (hp : p < n * z.size) : (Builtin.zeroCells z n)[p]? = some (z[p % z.size]!) := by
  unfold Builtin.zeroCells
  simp [hp]

theorem e_clr {d : Option Nat} {sz e s len : Nat} {zs : List K} {x : XA} {row : List D} {rs : List (List D)} (hx : evA sl x = some (.osl e sz s len)) (he : get own e = some (.rows sz rs)) (hl : s + len ≤ rs.length) (hz : zrow zs = some row) :
    EStep C ⟨sl, own⟩ d (.clr sz zs x) (putR d (.tup []) ⟨sl, (e, .rows sz (rs.take s ++ List.replicate len row ++ rs.drop (s + len))) :: own⟩) := by
  intro o ho hd hf a w β S
  simp only [fits] at hf
  split at hf
  · rename_i args ts hop
    split at hf
    · rename_i p t h1 h2
      simp only [Bool.and_eq_true] at hf
      obtain ⟨h3, h4⟩ := hf
      split at h3
      · rename_i el hel
        simp only [Bool.and_eq_true] at h3
        obtain ⟨h3, h5⟩ := h3
        obtain ⟨ti, z, z1, z2, z3, z4⟩ := zeroIs_some h5
        have hargs := list1 h1
        subst hargs
        have hv := AR_of_fitA S h4 hx
        rw [AR] at hv
        obtain ⟨base, cap, g3, g4, g5⟩ := hv
        have hts : ts[0]? = some t := by
          have : ts.toList[0]? = some t := by rw [h2]; rfl
          simpa using this
        have hzv : (zeroValue el).run C.P w = .ok z w := by simp [zeroValue, typeInfo, z1, z2]
        have hAL := fitZ_AL (X := C.X) (β := β) (w := w) z3
        have hrow : DL w (okf C.X β) row z.cells.toList := toDs_DL hz hAL
        have hzl : z.cells.size = zs.length := by
          have := AL_len hAL; simpa using this
        have hrl : row.length = zs.length := by have := toDs_len hz; simpa using this
        have hsz : zs.length = sz := by
          unfold szIs at h3
          rw [z1] at h3
          have := Nat.eq_of_beq_eq_true h3
          omega
        have hfin : ∀ w' β', SatB C ⟨sl, (e, .rows sz (rs.take s ++ List.replicate len row ++ rs.drop (s + len))) :: own⟩ a w' β' → (execOp a.eval o).run C.P w = .ok (.value (.tuple #[])) w' → ∃ r w' β', (execOp a.eval o).run C.P w = .ok r w' ∧
            ((r = .skip ∧ SatB C (putR d (.tup []) ⟨sl, (e, .rows sz (rs.take s ++ List.replicate len row ++ rs.drop (s + len))) :: own⟩) (a.put d undef) w' β') ∨ ∃ v, r = .value v ∧ SatB C (putR d (.tup []) ⟨sl, (e, .rows sz (rs.take s ++ List.replicate len row ++ rs.drop (s + len))) :: own⟩) (a.put d v) w' β') := by
          intro w' β' S1 hrun
          exact ⟨_, w', β', hrun, .inr ⟨_, rfl, S1.putR hd (by rw [AR]; exact ⟨#[], rfl, by simp [AL]⟩)⟩⟩
        rcases Nat.eq_zero_or_pos len with hlen | hlen
        · subst hlen
          refine hfin w β ?_ ?_
          · have e1 : rs.take s ++ List.replicate 0 row ++ rs.drop (s + 0) = rs := by simp
            rw [e1]
            exact S.le (fun k x hx => hx) (fun k ob hk => by
              rw [get_cons] at hk
              split at hk
              · rename_i hke; subst hke; cases hk; exact he
              · exact hk)
          · simp only [execOp, hop, resolve, List.map_toArray, List.map_cons, List.map_nil, Sem.run_bind, Sem.run_pure, Result.andThen_ok, invoke, builtin, Builtin.clear_, hts, List.getElem?_toArray, List.getElem?_cons_zero,
              run_underlying (sliceOf_some hel), g3]
            cases base <;> simp
        · rcases g5 with g5 | ⟨b, c, ty, fr, g6, g7, g8, g9⟩
          · omega
          · subst g7
            have hob0 := S.hr.own e _ he
            rw [g6] at hob0
            obtain ⟨c0, ty0, fr0, q1, q2, q3, q4⟩ := hob0
            rw [g8] at q1; cases q1
            have hm1 : (s + len) * sz ≤ c.size := Nat.le_trans (Nat.mul_le_mul_right _ (by omega)) g9
            rw [Nat.add_mul] at hm1
            have hzc : (Builtin.zeroCells z.cells len).toList.length = len * sz := by
              simp [Builtin.zeroCells, hzl, hsz]
            have hones : ∀ u ∈ (Builtin.zeroCells z.cells len).toList, u.oneCell' = true := by
              intro u hu
              simp only [Builtin.zeroCells] at hu
              have hrr : RowsR C.X β w sz [row] z.cells.toList.toArray := RowsR_one hrow (by omega)
              have h1' := RowsR_ones hrr (by simp; omega)
              simp only [Array.toList_map, List.mem_map] at hu
              obtain ⟨q, hq, rfl⟩ := hu
              apply h1'
              have hzs : 0 < z.cells.size := by
                rcases Nat.eq_zero_or_pos z.cells.size with h0 | h0
                · rw [h0] at hq; simp at hq
                · exact h0
              have hlt : q % z.cells.size < z.cells.size := Nat.mod_lt _ hzs
              rw [getElem!_pos z.cells _ hlt]
              exact Array.getElem_mem_toList hlt
            have hst := storeCells_run (P := C.P) (o := s * sz) (vs := (Builtin.zeroCells z.cells len).toList) g8 q2.1 (by rw [hzc]; exact hm1) hones
            obtain ⟨w1, w2, w3, w4, w5, w6⟩ := setCells_world b (Builtin.zeroCells z.cells len).toList (s * sz) w
            refine hfin (w.setCells b (s * sz) (Builtin.zeroCells z.cells len).toList) β ?_ (by
              simp only [execOp, hop, resolve, List.map_toArray, List.map_cons, List.map_nil, Sem.run_bind, Sem.run_pure, Result.andThen_ok, invoke, builtin, Builtin.clear_, hts, List.getElem?_toArray, List.getElem?_cons_zero,
                run_underlying (sliceOf_some hel), g3]
              have : ∃ m, len = m + 1 := ⟨len - 1, by omega⟩
              obtain ⟨m, rfl⟩ := this
              simp only [hzv, Sem.run_bind, Result.andThen_ok, hst, Sem.run_pure])
            have hcc : ∀ c' ty' fr', w.heap[b]? = some (.cells c' ty' fr') → ∃ c'' ty'' fr'', (w.setCells b (s * sz) (Builtin.zeroCells z.cells len).toList).heap[b]? = some (.cells c'' ty'' fr'') ∧ c''.size = c'.size := fun c' ty' fr' h =>
              ⟨_, _, _, w6 c' ty' fr' h, by simp [setL_length]⟩
            have T := Tr.store (X := C.X) g6 w4 w5 hcc
            have hlc : (c.toList.take (s * sz)).length = s * sz := by simp; omega
            have hset : setL c.toList (s * sz) (Builtin.zeroCells z.cells len).toList = c.toList.take (s * sz) ++ (Builtin.zeroCells z.cells len).toList ++ c.toList.drop ((s + len) * sz) := by
              have := setL_append (c.toList.take (s * sz)) (c.toList.drop (s * sz)) (Builtin.zeroCells z.cells len).toList (by rw [hzc]; simp; omega)
              rw [List.take_append_drop, hlc, hzc, List.drop_drop, ← Nat.add_mul] at this
              exact this
            have q4' : RowsR C.X β w sz rs c.toList.toArray := by simpa using q4
            have hRR : RowsR C.X β w sz (rs.take s ++ List.replicate len row ++ rs.drop (s + len)) (c.toList.take (s * sz) ++ (Builtin.zeroCells z.cells len).toList ++ c.toList.drop ((s + len) * sz)).toArray := by
              have r1 : RowsR C.X β w sz (rs.take s) (c.toList.take (s * sz)).toArray := RowsR_take q4 s
              have r2 : RowsR C.X β w sz (List.replicate len row) (Builtin.zeroCells z.cells len).toList.toArray :=
                RowsR_zero (n := len) hrow (by omega) (fun p hp => by simpa using zeroCells_get z.cells len p (by rw [hzl, hsz]; exact hp)) len (Nat.le_refl _)
              have r3 := RowsR_drop q4' (s + len)
              have e2 : (c.toList.take (s * sz)).length = (rs.take s).length * sz := by
                rw [hlc, List.length_take, Nat.min_eq_left (by omega)]
              have e3 : (c.toList.take (s * sz) ++ (Builtin.zeroCells z.cells len).toList).length = (rs.take s ++ List.replicate len row).length * sz := by
                rw [List.length_append, List.length_append, hlc, hzc, List.length_take, List.length_replicate, Nat.min_eq_left (by omega : s ≤ rs.length), Nat.add_mul]
              exact RowsR_split (RowsR_split r1 e2 r2) e3 r3
            have hob : OBR C.X β (w.setCells b (s * sz) (Builtin.zeroCells z.cells len).toList) (.rows sz (rs.take s ++ List.replicate len row ++ rs.drop (s + len))) (some b) := by
              refine ⟨_, ty, fr, w6 c ty fr g8, by simpa [setL_length] using q2, ?_, ?_⟩
              · have : (rs.take s ++ List.replicate len row ++ rs.drop (s + len)).length = rs.length := by simp; omega
                rw [this]; simpa [setL_length] using q3
              · rw [hset]; exact hRR.mono T.keep
            exact S.store g6 ⟨w1, w2, w3⟩ w4 w5 hcc hob
      · cases h3
    · cases hf
  · cases hf

/-- Of an own block's rows the first ones alone are told. -/
theorem wk_rows {C : Cx} {sl : List (Nat × AV)} {own : List (Nat × OB)} (e : Nat) {sz : Nat} {rs rs' : List (List D)} (he : get own e = some (.rows sz rs)) (h : ∃ more, rs = rs' ++ more) :
    Wk C ⟨sl, own⟩ ⟨sl, (e, .rows sz rs') :: own⟩ := by
  rintro a w ⟨β, S⟩
  obtain ⟨more, rfl⟩ := h
  refine ⟨β, { S with hr := { S.hr with own := ?_ } }⟩
  intro k ob hk
  rw [get_cons] at hk
  split at hk
  · rename_i hke; subst hke; cases hk
    have hob := S.hr.own _ _ he
    cases hb : β e with
    | none => rw [hb] at hob; simp only [OBR, List.append_eq_nil_iff] at hob; exact hob.1
    | some b =>
      rw [hb] at hob
      obtain ⟨c, ty, fr, h1, h2, h3, h4⟩ := hob
      refine ⟨c, ty, fr, h1, h2, Nat.le_trans (Nat.mul_le_mul_right _ (by simp)) h3, ?_⟩
      have := RowsR_take h4 rs'.length
      rw [List.take_left] at this
      intro i r hi
      obtain ⟨g1, g2⟩ := this i r hi
      refine ⟨g1, fun j x hj => ?_⟩
      obtain ⟨v, g3, g4⟩ := g2 j x hj
      refine ⟨v, ?_, g4⟩
      simp only [List.getElem?_toArray, List.getElem?_take] at g3
      split at g3
      · simpa using g3
      · cases g3
  · exact S.hr.own k ob hk
end
end Go.AM

/- AM, part 31: regions that draw their order, by a family of states; with one operation in them that turns own blocks. -/
namespace Go.AM

theorem SatB.le2 {C : Cx} {st st' : St} {a : Act} {w : World} {β : Names} (S : SatB C st' a w β) (h1 : ∀ t x, get st.sl t = some x → x = .dead ∨ get st'.sl t = some x) (h2 : ∀ e ob, get st.own e = some ob → get st'.own e = some ob) : SatB C st a w β where
  tsize := S.tsize
  df := S.df
  slots := fun t x hx => by
    rcases h1 t x hx with rfl | h
    · rw [AR]; trivial
    · exact S.slots t x h
  hr := { S.hr with own := fun e ob h => S.hr.own e ob (h2 e ob h) }
  mine := S.mine
  stay := S.stay
  fr := S.fr
  xlt := S.xlt
theorem wk_le2 {C : Cx} {st st' : St} (h1 : ∀ t x, get st.sl t = some x → x = .dead ∨ get st'.sl t = some x) (h2 : ∀ e ob, get st.own e = some ob → get st'.own e = some ob) : Wk C st' st :=
  fun _ _ ⟨β, S⟩ => ⟨β, S.le2 h1 h2⟩

/-- A region that draws its order: a family of states, one for each set of operations that is done. -/
theorem cx_drawG {C : Cx} {Kn Kr : Kont} {Ke : List (Nat × Kont)} {deps : List (List Nat)} {hd tl : List XI} {st0 : St} (stX : (Nat → Bool) → St)
    (hL : ∀ L L', (∀ j, j < hd.length → L j = L' j) → stX L = stX L') (h0 : Wk C st0 (stX (fun _ => false)))
    (hs : ∀ i x, hd[i]? = some x → ∀ L : Nat → Bool, L i = false → (∀ j, depOf deps i j = true → L j = true) → (∀ j m, L j = true → depOf deps j m = true → L m = true) →
      AXI C false [] [x] (stX L) (fun st' => Wk C st' (stX (fun j => Nat.beq i j || L j))))
    (ht : AXI C false [] tl (stX (fun _ => true)) Kn) : AX C (.drawE deps hd tl) st0 Kn Ke Kr := by
  intro c hf a w S
  simp only [fitsC] at hf
  split at hf
  · rename_i id ops
    unfold fitsDE at hf
    split at hf
    · rename_i n hn
      simp only [Bool.and_eq_true] at hf
      obtain ⟨⟨⟨f1, f2⟩, f3⟩, f4⟩ := hf
      have f1 := Nat.eq_of_beq_eq_true f1
      have f2 := sizeIs_eq f2
      have hns : n ≤ ops.size := fitIs_le _ _ _ _ _ _ _ _ f2
      refine wp_region_any f3 ?_
      have hfin : ∀ (m : Nat) (listed : Array Bool) (a : Act) (w : World), todo listed = m → Closed deps ops listed → (∀ k, n ≤ k → listed.getD k false = false) → Sat C (stX (fun j => listed.getD j false)) a w →
          (∀ j, j < n → listed.getD j false = true) → wpAny C.P .any ops (lift C Kn Ke Kr) m listed a w := by
        intro m listed a w hm hc hk S hall
        have hl : ∀ j, listed.getD j false = true ↔ j < n := fun j => ⟨fun h => by
          rcases Nat.lt_or_ge j n with h' | h'
          · exact h'
          · exact absurd h (by rw [hk j h']; simp), hall j⟩
        have ht' := todo_first listed.toList n (by rw [Array.length_toList, hc.1]; exact hns) (fun j => by have := hl j; simpa using this)
        have hm' : ops.size - n = m := by
          have h1 : listed.toList.countP (fun b => !b) = m := hm
          rw [h1, Array.length_toList, hc.1] at ht'; omega
        refine wpAny_forced f4 m n listed a w (Nat.le_refl _) (by omega) hc hl ?_
        have := ht ops _ (Rn.text C ops (lift C Kn Ke Kr)) 0 n ops.size f2 [] a w ?_ (fun g hg => by cases hg) (fun st' a' w' _ hK S' _ => ⟨st', hK, S'⟩)
        · rw [hm'] at this; simpa using this
        · rwa [hL (fun _ => true) (fun j => listed.getD j false) (fun j hj => (hall j (by omega)).symm)]
      have hQ : ∀ (m : Nat) (listed : Array Bool) (a : Act) (w : World), todo listed = m → Closed deps ops listed → (∀ k, n ≤ k → listed.getD k false = false) → Sat C (stX (fun j => listed.getD j false)) a w →
          wpAny C.P .any ops (lift C Kn Ke Kr) m listed a w := by
        intro m
        induction m with
        | zero =>
          intro listed a w hm hc hk S
          by_cases hall : ∀ j, j < n → listed.getD j false = true
          · exact hfin 0 listed a w hm hc hk S hall
          · exfalso
            simp only [Classical.not_forall] at hall
            obtain ⟨j, hj, hjl⟩ := hall
            have hjs : j < listed.size := by rw [hc.1]; omega
            have : listed[j]? = some false := by
              have h1 : listed[j]? = some listed[j] := by simp [hjs]
              have h2 : listed.getD j false = listed[j] := by simp [hjs]
              rw [h1]
              rw [h2] at hjl
              simp at hjl
              rw [hjl]
            have := todo_set this
            omega
        | succ m ih =>
          intro listed a w hm hc hk S
          by_cases hall : ∀ j, j < n → listed.getD j false = true
          · exact hfin (m + 1) listed a w hm hc hk S hall
          · have hall' : ∃ j, j < n ∧ listed.getD j false = false := by
              simp only [Classical.not_forall] at hall
              obtain ⟨j, hj, hjl⟩ := hall
              exact ⟨j, hj, by simpa using hjl⟩
            have hready : ∀ i, i ∈ Region.ready .any ops listed → i < n := fun i hi => by
              rcases Nat.lt_or_ge i n with h | h
              · exact h
              · obtain ⟨j, hj, hjl⟩ := hall'
                obtain ⟨_, o, ho, _⟩ := mem_ready.1 hi
                obtain ⟨ds, h4, _, _, h5⟩ := depsOK_spec f4 ho
                have := ready_deps f4 hc hi j (by unfold depOf; rw [h4]; exact membN_iff.2 (h5 h j (by omega)))
                rw [hjl] at this; cases this
            refine ⟨fun h0 => ?_, fun i hi => ?_⟩
            · exfalso
              have least : ∀ (p : Nat → Prop), (∃ n, p n) → ∃ n, p n ∧ ∀ m, p m → n ≤ m := by
                intro p ⟨n, hn⟩
                induction n using Nat.strongRecOn with
                | _ n ih =>
                  by_cases hm : ∃ m, m < n ∧ p m
                  · obtain ⟨m, h1, h2⟩ := hm; exact ih m h1 h2
                  · exact ⟨n, hn, fun m hpm => by
                      rcases Nat.lt_or_ge m n with h | h
                      · exact absurd ⟨m, h, hpm⟩ hm
                      · exact h⟩
              obtain ⟨k, ⟨k1, k2⟩, k3⟩ := least (fun j => j < n ∧ listed.getD j false = false) hall'
              have hks : k < ops.size := by omega
              have hkr : k ∈ Region.ready .any ops listed := by
                refine mem_ready.2 ⟨?_, ops[k], by simp [hks], fun e he hbd => ?_⟩
                · have : k < listed.size := by rw [hc.1]; exact hks
                  simp [this] at k2 ⊢; exact k2
                · obtain ⟨_, _, h2, _⟩ := depsOK_spec f4 (i := k) (o := ops[k]) (by simp [hks])
                  have := h2 e he hbd
                  cases hh : listed.getD e.on false with
                  | true => rfl
                  | false => have := k3 e.on ⟨by omega, hh⟩; omega
              rw [h0] at hkr; cases hkr
            · have hin := hready i hi
              have his : i < listed.size := by rw [hc.1]; omega
              have hil : listed.getD i false = false := by
                have := (mem_ready.1 hi).1
                simp [his] at this ⊢; exact this
              have hil' : listed[i]? = some false := by
                have h1 : listed[i]? = some listed[i] := by simp [his]
                have h2 : listed.getD i false = listed[i] := by simp [his]
                rw [h1, ← h2, hil]
              obtain ⟨x, hx⟩ : ∃ x, hd[i]? = some x := ⟨hd[i]'(by omega), by simp [show i < hd.length from by omega]⟩
              have hfit := fitIs_each (xs := hd) (i := 0) (by rw [hn, f1, Nat.zero_add]) i x hx
              rw [Nat.zero_add] at hfit
              have hax := hs i x hx (fun j => listed.getD j false) hil (ready_deps f4 hc hi) (fun j m h1 h2 => hc.2 j m h1 h2)
              let Qx : Exit → Act → World → Prop := fun e a w => match e with
                | .normal => wpAny C.P .any ops (lift C Kn Ke Kr) m (listed.setIfInBounds i true) a w
                | e => lift C Kn Ke Kr e a w
              have hrun := hax ops _ (Rn.text C ops Qx) 0 i (i + 1) hfit [] a w S (fun g hg => by cases hg) (fun st' a' w' _ hK S' _ => by
                show wpAny C.P .any ops (lift C Kn Ke Kr) m (listed.setIfInBounds i true) a' w'
                refine ih _ a' w' (by have := todo_set hil'; omega) (hc.step f4 hi) (fun k hk' => ?_) ?_
                · rw [getD_set his, hk k hk', Bool.or_false]
                  cases hb : Nat.beq i k with
                  | false => rfl
                  | true => have := Nat.eq_of_beq_eq_true hb; omega
                · have := hK a' w' S'
                  have e : (fun j => (listed.setIfInBounds i true).getD j false) = fun j => Nat.beq i j || listed.getD j false := by
                    funext j; exact getD_set his
                  rw [e]; exact this)
              rw [show i + 1 - i = 1 from by omega, List.append_nil, show List.range' i 1 = [i] from rfl, Go.wpOps_cons] at hrun
              refine wpOp_congr (Q := Qx) (fun e a w he hh => ?_) hrun
              cases e with
              | normal => exact absurd rfl he
              | _ => exact hh
      have ht0 : todo (Array.replicate ops.size false) = ops.size := by
        have key : ∀ n : Nat, (List.replicate n false).countP (fun b => !b) = n := by
          intro n
          induction n with
          | zero => rfl
          | succ n ih => rw [List.replicate_succ, List.countP_cons, ih]; rfl
        unfold todo; rw [Array.toList_replicate]; exact key _
      have hz : ∀ j, (Array.replicate ops.size false).getD j false = false := fun j => by
        simp [Array.getElem?_replicate]
        split <;> simp
      refine hQ ops.size _ a _ ht0 ⟨by simp, fun i j hi => ?_⟩ (fun k _ => hz k) ?_
      · rw [hz] at hi; cases hi
      · have e : (fun j => (Array.replicate ops.size false).getD j false) = fun _ => false := by funext j; exact hz j
        rw [e]; exact h0 _ _ (S.ext (Ext.drew w))
    · cases hf
  · cases hf

/-! One operation that turns own blocks. -/
/-- Slots that do not hold on are dead, but for 'd'. -/
def fltS (q : AV → Bool) (d : Nat) : List (Nat × AV) → List (Nat × AV)
  | [] => []
  | (t, y) :: r => (t, bif Nat.beq t d || q y then y else .dead) :: fltS q d r
theorem get_fltS {q : AV → Bool} {d : Nat} : ∀ (l : List (Nat × AV)) (t : Nat), get (fltS q d l) t = (get l t).map (fun y => bif Nat.beq t d || q y then y else .dead)
  | [], _ => rfl
  | (k, y) :: r, t => by
    rw [fltS, get_cons, get_cons]
    split
    · rename_i h; subst h; rfl
    · exact get_fltS r t
theorem get_flt {q : AV → Bool} {d : Nat} {l : List (Nat × AV)} {t : Nat} {x : AV} (h : get (fltS q d l) t = some x) : x = .dead ∨ (get l t = some x ∧ (t = d ∨ q x = true)) := by
  rw [get_fltS] at h
  cases hg : get l t with
  | none => rw [hg] at h; cases h
  | some y =>
    rw [hg, Option.map_some, Option.some.injEq] at h
    cases hb : (Nat.beq t d || q y) with
    | false => rw [hb] at h; exact .inl h.symm
    | true =>
      rw [hb, cond_true] at h
      subst h
      refine .inr ⟨rfl, ?_⟩
      rcases Bool.or_eq_true _ _ ▸ hb with h | h
      · exact .inl (Nat.eq_of_beq_eq_true h)
      · exact .inr h
theorem flt_get {q : AV → Bool} {d : Nat} {l : List (Nat × AV)} {t : Nat} {x : AV} (h : get l t = some x) (hq : t = d ∨ q x = true) : get (fltS q d l) t = some x := by
  rw [get_fltS, h, Option.map_some]
  have : (Nat.beq t d || q x) = true := by
    rcases hq with rfl | hq
    · simp
    · rw [hq, Bool.or_true]
  rw [this]; rfl
theorem nrS_flt {n : Nat} {q : AV → Bool} {d : Nat} : ∀ {l : List (Nat × AV)}, nrS n l = true → nrS n (fltS q d l) = true
  | [], _ => rfl
  | (k, y) :: r, h => by
    rw [nrS, Bool.and_eq_true] at h
    rw [fltS, nrS, Bool.and_eq_true]
    refine ⟨?_, nrS_flt h.2⟩
    cases (Nat.beq k d || q y) with
    | true => exact h.1
    | false => rfl
theorem nrOs_pgOs {n : Nat} {p : Nat → Bool} : ∀ {l : List (Nat × OB)}, nrOs n l = true → nrOs n (pgOs p l) = true
  | [], _ => rfl
  | (k, ob) :: r, h => by
    rw [nrOs, Bool.and_eq_true] at h
    rw [pgOs, nrOs, Bool.and_eq_true]
    exact ⟨nrO_drop p h.1, nrOs_pgOs h.2⟩

/-- The operation that turns own blocks: 'p' tells the names to which references die, 'q' what holds on, 'hk' what own blocks hold behind it, 'FN' which of these are new. -/
def LocL (C : Cx) (p : Nat → Bool) (q : AV → Bool) (FN : List Nat) (slm : List (Nat × AV)) (ownm : List (Nat × OB)) (x : XI) (d : Nat) (r : AV) (hk : List (Nat × OB)) : Prop :=
  ∀ sl own, (∀ t y, get slm t = some y → get sl t = some y) → (∀ e ob, get ownm e = some ob → get own e = some ob) → freeN sl own FN = true →
    AXI C false [] [x] ⟨sl, own⟩ (fun st' => (r = .dead ∨ get st'.sl d = some r) ∧ (∀ t y, t ≠ d → get sl t = some y → q y = true → get st'.sl t = some y) ∧
      (∀ e ob, get hk e = some ob → get st'.own e = some ob) ∧ (∀ e ob, get hk e = none → get own e = some ob → get st'.own e = some (pgO p ob)))

def hkv (bk : Bool) (hk : List (Nat × OB)) : List (Nat × OB) := bif bk then hk else []
def StepG (C : Cx) (k dk : Nat) (p : Nat → Bool) (q : AV → Bool) (FN : List Nat) (hk : List (Nat × OB)) (bk ki : Bool) (i : Nat) (slv : List (Nat × AV)) (ownv : List (Nat × OB)) (ts bd : List Nat) (x : XI) (dl : Dl) : Prop :=
  (Nat.beq i k = true ∧ dl.h = [] ∧ Nat.beq dl.d dk = true ∧ LocL C p q FN slv ownv x dl.d dl.r hk) ∨
  (Nat.beq i k = false ∧ ∃ slm, keepK ts slv = some slm ∧ (ki = true ∨ (fltS q dk slm = slm ∧ pgOs p (outO bd (hkv bk hk ++ ownv)) = outO bd (hkv bk hk ++ ownv) ∧
      (bk = true ∨ (hk.map Prod.fst).all (fun n => memb n bd) = true) ∧ pgOs p dl.h = dl.h ∧ (dl.h.map Prod.fst).all (fun n => !memb n (hk.map Prod.fst)) = true)) ∧
    Loc C slm (outO bd (hkv bk hk ++ ownv)) x dl)
/-- What the listed ones have laid; the last one stands first. -/
def pickSR (ds : List Nat) : Nat → List Dl → List (Nat × AV)
  | n + 1, x :: xs => bif membN n ds then (x.d, x.r) :: pickSR ds n xs else pickSR ds n xs
  | _, _ => []
def pickHR (ds : List Nat) : Nat → List Dl → List (Nat × OB)
  | n + 1, x :: xs => bif membN n ds then x.h ++ pickHR ds n xs else pickHR ds n xs
  | _, _ => []
theorem pickSR_of {ds : List Nat} {sl : List (Nat × AV)} : ∀ {racc : List Dl} {n t : Nat} {y : AV}, n = racc.length → get (pickSR ds n racc ++ sl) t = some y → (∃ j x, racc.reverse[j]? = some x ∧ membN j ds = true ∧ x.d = t ∧ x.r = y) ∨ get sl t = some y
  | [], n, t, y, hn, h => .inr (by subst hn; exact h)
  | x :: xs, n, t, y, hn, h => by
    subst hn
    have hx : (x :: xs).reverse[xs.length]? = some x := by simp
    have lift : (∃ j z, xs.reverse[j]? = some z ∧ membN j ds = true ∧ z.d = t ∧ z.r = y) ∨ get sl t = some y → (∃ j z, (x :: xs).reverse[j]? = some z ∧ membN j ds = true ∧ z.d = t ∧ z.r = y) ∨ get sl t = some y := by
      rintro (⟨j, z, h1, h2⟩ | h1)
      · refine .inl ⟨j, z, ?_, h2⟩
        rw [List.reverse_cons, List.getElem?_append_left]
        · exact h1
        · rcases Nat.lt_or_ge j xs.reverse.length with h | h
          · exact h
          · rw [List.getElem?_eq_none h] at h1; cases h1
      · exact .inr h1
    rw [List.length_cons, pickSR] at h
    cases hm : membN xs.length ds with
    | true =>
      rw [hm, cond_true, List.cons_append, get_cons] at h
      split at h
      · rename_i he; cases h; exact .inl ⟨_, x, hx, hm, he, rfl⟩
      · exact lift (pickSR_of rfl h)
    | false => rw [hm, cond_false] at h; exact lift (pickSR_of rfl h)
theorem pickHR_of {ds : List Nat} {own : List (Nat × OB)} : ∀ {racc : List Dl} {n e : Nat} {ob : OB}, n = racc.length → get (pickHR ds n racc ++ own) e = some ob → (∃ j x, racc.reverse[j]? = some x ∧ membN j ds = true ∧ get x.h e = some ob) ∨ get own e = some ob
  | [], n, t, y, hn, h => .inr (by subst hn; exact h)
  | x :: xs, n, t, y, hn, h => by
    subst hn
    have hx : (x :: xs).reverse[xs.length]? = some x := by simp
    have lift : (∃ j z, xs.reverse[j]? = some z ∧ membN j ds = true ∧ get z.h t = some y) ∨ get own t = some y → (∃ j z, (x :: xs).reverse[j]? = some z ∧ membN j ds = true ∧ get z.h t = some y) ∨ get own t = some y := by
      rintro (⟨j, z, h1, h2⟩ | h1)
      · refine .inl ⟨j, z, ?_, h2⟩
        rw [List.reverse_cons, List.getElem?_append_left]
        · exact h1
        · rcases Nat.lt_or_ge j xs.reverse.length with h | h
          · exact h
          · rw [List.getElem?_eq_none h] at h1; cases h1
      · exact .inr h1
    rw [List.length_cons, pickHR] at h
    cases hm : membN xs.length ds with
    | true =>
      rw [hm, cond_true, List.append_assoc] at h
      rcases get_app _ _ _ _ h with h1 | ⟨_, h1⟩
      · exact .inl ⟨_, x, hx, hm, h1⟩
      · exact lift (pickHR_of rfl h1)
    | false => rw [hm, cond_false] at h; exact lift (pickHR_of rfl h)

def AXG (C : Cx) (k dk : Nat) (p : Nat → Bool) (q : AV → Bool) (FN : List Nat) (hk : List (Nat × OB)) (sl : List (Nat × AV)) (own : List (Nat × OB)) (dk' : List Nat) : Nat → List Dl → List XI → List (List Nat) → List (List Nat) → List (List Nat) → (List Dl → Prop) → Prop
  | _, racc, [], _, _, _, K => K racc.reverse
  | i, racc, x :: xs, ds :: dss, ts :: tss, bd :: bds, K => ∃ dl, StepG C k dk p q FN hk (membN k ds) (membN i dk') i (pickSR ds i racc ++ sl) (pickHR ds i racc ++ own) ts bd x dl ∧ AXG C k dk p q FN hk sl own dk' (i + 1) (dl :: racc) xs dss tss bds K
  | _, _, _, _, _, _, _ => False

theorem axg_out {C : Cx} {k dk : Nat} {p : Nat → Bool} {q : AV → Bool} {FN : List Nat} {hk : List (Nat × OB)} {sl : List (Nat × AV)} {own : List (Nat × OB)} {dk' : List Nat} {K : List Dl → Prop} : ∀ {xs : List XI} {dss tss bds : List (List Nat)} {i : Nat} {racc : List Dl}, i = racc.length → AXG C k dk p q FN hk sl own dk' i racc xs dss tss bds K →
    ∃ more, K (racc.reverse ++ more) ∧ more.length = xs.length ∧ ∀ j x, xs[j]? = some x → ∃ dl ds ts bd slv ownv, more[j]? = some dl ∧ dss[j]? = some ds ∧ StepG C k dk p q FN hk (membN k ds) (membN (i + j) dk') (i + j) slv ownv ts bd x dl ∧
      (∀ t y, get slv t = some y → (∃ m z, (racc.reverse ++ more)[m]? = some z ∧ membN m ds = true ∧ z.d = t ∧ z.r = y) ∨ get sl t = some y) ∧
      (∀ e ob, get ownv e = some ob → (∃ m z, (racc.reverse ++ more)[m]? = some z ∧ membN m ds = true ∧ get z.h e = some ob) ∨ get own e = some ob)
  | [], dss, tss, bds, i, racc, _, h => ⟨[], by rw [List.append_nil]; simpa [AXG] using h, rfl, fun j x hx => by simp at hx⟩
  | y :: ys, ds :: dss, ts :: tss, bd :: bds, i, racc, hi, h => by
    obtain ⟨dl, h1, h2⟩ := h
    obtain ⟨more, h3, h4, h5⟩ := axg_out (by simp [hi]) h2
    have e : (dl :: racc).reverse ++ more = racc.reverse ++ dl :: more := by simp
    rw [e] at h3 h5
    refine ⟨dl :: more, h3, by simp [h4], fun j x hx => ?_⟩
    have left : ∀ (m : Nat) (z : Dl), racc.reverse[m]? = some z → (racc.reverse ++ dl :: more)[m]? = some z := fun m z hm => by
      rw [List.getElem?_append_left]
      · exact hm
      · rcases Nat.lt_or_ge m racc.reverse.length with h | h
        · exact h
        · rw [List.getElem?_eq_none h] at hm; cases hm
    cases j with
    | zero =>
      simp only [List.getElem?_cons_zero, Option.some.injEq] at hx
      subst hx
      refine ⟨dl, ds, ts, bd, _, _, rfl, rfl, h1, fun t y hy => ?_, fun e ob he => ?_⟩
      · rcases pickSR_of hi hy with ⟨m, z, h6, h7⟩ | h6
        · exact .inl ⟨m, z, left m z h6, h7⟩
        · exact .inr h6
      · rcases pickHR_of hi he with ⟨m, z, h6, h7⟩ | h6
        · exact .inl ⟨m, z, left m z h6, h7⟩
        · exact .inr h6
    | succ j =>
      obtain ⟨d', ds', ts', bd', sv, ov, h6, h7, h8, h9, h10⟩ := h5 j x (by simpa using hx)
      rw [show i + 1 + j = i + (j + 1) from by omega] at h8
      exact ⟨d', ds', ts', bd', sv, ov, by simpa using h6, by simpa using h7, h8, h9, h10⟩
  | _ :: _, [], _, _, _, _, _, h => h.elim
  | _ :: _, _ :: _, [], _, _, _, _, h => h.elim
  | _ :: _, _ :: _, _ :: _, [], _, _, _, h => h.elim

def stG (k dk : Nat) (p : Nat → Bool) (q : AV → Bool) (hk : List (Nat × OB)) (sl : List (Nat × AV)) (own : List (Nat × OB)) (acc : List Dl) (L : Nat → Bool) : St :=
  bif L k then ⟨fltS q dk (pickS L 0 acc ++ sl), hk ++ pgOs p (pickH L 0 acc ++ own)⟩ else ⟨pickS L 0 acc ++ sl, pickH L 0 acc ++ own⟩

/-- Of the operation that turns own blocks: what it lays as new. -/
def withK (k : Nat) (hk : List (Nat × OB)) : Nat → List Dl → List Dl
  | _, [] => []
  | i, x :: xs => (bif Nat.beq i k then ⟨x.d, x.r, hk⟩ else x) :: withK k hk (i + 1) xs
theorem withK_get {k : Nat} {hk : List (Nat × OB)} : ∀ {acc : List Dl} {i j : Nat} {x : Dl}, acc[j]? = some x → (withK k hk i acc)[j]? = some (bif Nat.beq (i + j) k then ⟨x.d, x.r, hk⟩ else x)
  | y :: ys, i, 0, x, h => by
    simp only [List.getElem?_cons_zero, Option.some.injEq] at h
    subst h; rw [withK]; simp
  | y :: ys, i, j + 1, x, h => by
    rw [withK, List.getElem?_cons_succ, withK_get (by simpa using h), show i + 1 + j = i + (j + 1) from by omega]
def accG (deps : List (List Nat)) (k : Nat) (FN : List Nat) (hk : List (Nat × OB)) (sl : List (Nat × AV)) (own : List (Nat × OB)) (acc : List Dl) : Bool :=
  distinct (acc.map Dl.d) && frS (acc.map Dl.d) sl && distinct (allNs acc) && noneIn own (allNs acc) && nsOK sl own (allNs acc) && indepB deps (withK k hk 0 acc) 0 acc && Nat.ble (k + 1) acc.length &&
    distinct FN && nsOK sl own FN && indepI deps k FN 0 (withK k hk 0 acc)

theorem pickS_congr {L L' : Nat → Bool} : ∀ {acc : List Dl} {i : Nat}, (∀ j, j < acc.length → L (i + j) = L' (i + j)) → pickS L i acc = pickS L' i acc
  | [], _, _ => rfl
  | x :: xs, i, h => by
    have h0 := h 0 (by simp)
    rw [Nat.add_zero] at h0
    have ih := pickS_congr (L := L) (L' := L') (acc := xs) (i := i + 1) (fun j hj => by
      have := h (j + 1) (by simpa using hj)
      rwa [show i + (j + 1) = i + 1 + j from by omega] at this)
    rw [pickS, pickS, h0, ih]
theorem pickH_congr {L L' : Nat → Bool} : ∀ {acc : List Dl} {i : Nat}, (∀ j, j < acc.length → L (i + j) = L' (i + j)) → pickH L i acc = pickH L' i acc
  | [], _, _ => rfl
  | x :: xs, i, h => by
    have h0 := h 0 (by simp)
    rw [Nat.add_zero] at h0
    have ih := pickH_congr (L := L) (L' := L') (acc := xs) (i := i + 1) (fun j hj => by
      have := h (j + 1) (by simpa using hj)
      rwa [show i + (j + 1) = i + 1 + j from by omega] at this)
    rw [pickH, pickH, h0, ih]
theorem pickS_none : ∀ {acc : List Dl} {i : Nat}, pickS (fun _ => false) i acc = []
  | [], _ => rfl
  | _ :: xs, i => by rw [pickS, cond_false, pickS_none]
theorem pickH_none : ∀ {acc : List Dl} {i : Nat}, pickH (fun _ => false) i acc = []
  | [], _ => rfl
  | _ :: xs, i => by rw [pickH, cond_false, pickH_none]
theorem get_pgOs_some {p : Nat → Bool} {l : List (Nat × OB)} {e : Nat} {ob : OB} (h : get l e = some ob) : get (pgOs p l) e = some (pgO p ob) := by
  rw [get_pgOs, h]; rfl
theorem get_pgOs_of {p : Nat → Bool} {l : List (Nat × OB)} {e : Nat} {ob : OB} (h : get (pgOs p l) e = some ob) : ∃ ob0, get l e = some ob0 ∧ ob = pgO p ob0 := by
  rw [get_pgOs] at h
  cases hg : get l e with
  | none => rw [hg] at h; cases h
  | some o => rw [hg] at h; exact ⟨o, rfl, (Option.some.inj h).symm⟩
theorem allP_get {p : Nat → Bool} {h : List (Nat × OB)} (ha : pgOs p h = h) {e : Nat} {ob : OB} (hg : get h e = some ob) : pgO p ob = ob := by
  have := get_pgOs_some (p := p) hg
  rw [ha, hg] at this
  exact (Option.some.inj this).symm
def depsAt (deps : List (List Nat)) (k : Nat) : List Nat := match deps[k]? with | some l => l | none => []
theorem depsAt_eq {deps : List (List Nat)} {k j : Nat} : depOf deps k j = membN j (depsAt deps k) := by
  unfold depOf depsAt
  cases deps[k]? with
  | none => rfl
  | some l => rfl
theorem cx_drawL {C : Cx} {Kn Kr : Kont} {Ke : List (Nat × Kont)} {deps : List (List Nat)} {hd tl : List XI} {sl : List (Nat × AV)} {own : List (Nat × OB)} (k dk : Nat) (p : Nat → Bool) (q : AV → Bool) (FN : List Nat) (hk : List (Nat × OB)) (tss bds : List (List Nat)) {dk' : List Nat} (hdk' : depsAt deps k = dk')
    (h : AXG C k dk p q FN hk sl own dk' 0 [] hd deps tss bds (fun acc => accG deps k FN hk sl own acc = true ∧ AXI C false [] tl (stG k dk p q hk sl own acc (fun _ => true)) Kn)) : AX C (.drawE deps hd tl) ⟨sl, own⟩ Kn Ke Kr := by
  obtain ⟨acc, ⟨g1, gt⟩, g3, g4⟩ := axg_out (racc := []) (i := 0) rfl h
  simp only [List.reverse_nil, List.nil_append, Nat.zero_add] at g1 gt g4
  subst hdk'
  unfold accG at g1
  simp only [Bool.and_eq_true] at g1
  obtain ⟨⟨⟨⟨⟨⟨⟨⟨⟨a1, a2⟩, a3⟩, a4⟩, a5⟩, a6⟩, a8⟩, b1⟩, b2⟩, b3⟩ := g1
  have a8 := Nat.le_of_ble_eq_true a8
  refine cx_drawG (stG k dk p q hk sl own acc) (fun L L' hLL => ?_) ?_ ?_ gt
  · unfold stG
    rw [hLL k (by omega), pickS_congr (i := 0) (L := L) (L' := L') (fun j hj => by rw [Nat.zero_add]; exact hLL j (by omega)), pickH_congr (i := 0) (L := L) (L' := L') (fun j hj => by rw [Nat.zero_add]; exact hLL j (by omega))]
  · have : stG k dk p q hk sl own acc (fun _ => false) = ⟨sl, own⟩ := by
      unfold stG; rw [cond_false, pickS_none, pickH_none]; rfl
    rw [this]; exact fun _ _ S => S
  · intro i x hx L hLi hdep hcl
    obtain ⟨dl, ds, ts, bd, slv, ownv, hdl, hds, hstep, hv1, hv2⟩ := g4 i x hx
    have hmd : ∀ m, membN m ds = depOf deps i m := fun m => by unfold depOf; rw [hds]
    rw [hmd k, ← depsAt_eq] at hstep
    -- the views
    have hvS : ∀ t y, get slv t = some y → get (pickS L 0 acc ++ sl) t = some y := fun t y hy => pickS_mk a1 a2 (by
      rcases hv1 t y hy with ⟨j, z, q1, q2, q3, q4⟩ | q0
      · rw [hmd] at q2
        exact .inl ⟨j, z, q1, by rw [Nat.zero_add]; exact hdep j q2, q3, q4⟩
      · exact .inr q0)
    have hvO : ∀ e ob, get ownv e = some ob → get (pickH L 0 acc ++ own) e = some ob := fun e ob he => pickH_mk a3 a4 (by
      rcases hv2 e ob he with ⟨j, z, q1, q2, q3⟩ | q0
      · rw [hmd] at q2
        exact .inl ⟨j, z, q1, by rw [Nat.zero_add]; exact hdep j q2, q3⟩
      · exact .inr q0)
    let L' : Nat → Bool := fun j => Nat.beq i j || L j
    have hLL' : ∀ j, L j = true → L' j = true := fun j hj => by show (Nat.beq i j || L j) = true; rw [hj, Bool.or_true]
    have hL'i : L' i = true := by show (Nat.beq i i || L i) = true; simp
    have hL'o : ∀ j, L' j = true → j ≠ i → L j = true := fun j hj hne => by
      have : (Nat.beq i j || L j) = true := hj
      rw [beq_ne (fun h => hne h.symm), Bool.false_or] at this; exact this
    have hS : ∀ t y, get (pickS L' 0 acc ++ sl) t = some y → (t = dl.d ∧ y = dl.r) ∨ (t ≠ dl.d ∧ get (pickS L 0 acc ++ sl) t = some y) := by
      intro t y hy
      rcases pickS_of hy with ⟨j, z, q1, q2, q3, q4⟩ | q0
      · rw [Nat.zero_add] at q2
        by_cases hij : j = i
        · subst hij; rw [hdl] at q1; cases q1; exact .inl ⟨q3.symm, q4.symm⟩
        · refine .inr ⟨fun he => ds_ne a1 hdl q1 (fun h => hij h.symm) (by rw [q3, he]), pickS_mk a1 a2 (.inl ⟨j, z, q1, by rw [Nat.zero_add]; exact hL'o j q2 hij, q3, q4⟩)⟩
      · refine .inr ⟨fun he => ?_, pickS_mk a1 a2 (.inr q0)⟩
        subst he
        rw [frS_mem a2 dl.d (List.mem_map_of_mem (List.mem_of_getElem? hdl))] at q0; cases q0
    have hO : ∀ e ob, get (pickH L' 0 acc ++ own) e = some ob → get dl.h e = some ob ∨ (get dl.h e = none ∧ get (pickH L 0 acc ++ own) e = some ob) := by
      intro e ob he
      rcases pickH_of he with ⟨j, z, q1, q2, q3⟩ | q1
      · rw [Nat.zero_add] at q2
        by_cases hij : j = i
        · subst hij; rw [hdl] at q1; cases q1; exact .inl q3
        · refine .inr ⟨?_, pickH_mk a3 a4 (.inl ⟨j, z, q1, by rw [Nat.zero_add]; exact hL'o j q2 hij, q3⟩)⟩
          cases hg : get dl.h e with
          | none => rfl
          | some o => exact absurd (get_mem_fst q3) (ns_ne a3 hdl q1 (fun h => hij h.symm) e (get_mem_fst hg))
      · refine .inr ⟨?_, pickH_mk a3 a4 (.inr q1)⟩
        cases hg : get dl.h e with
        | none => rfl
        | some o =>
          have := noneIn_mem a4 ((ns_distinct a3 hdl).2 e (get_mem_fst hg))
          rw [this] at q1; cases q1
    -- new names are free
    have hnr : ∀ (ns : List Nat), indepI deps i ns 0 (withK k hk 0 acc) = true → nsOK sl own ns = true → ∀ n ∈ ns, n < 1000 ∧ nrS n (pickS L 0 acc ++ sl) = true ∧ nrOs n (pickH L 0 acc ++ own) = true ∧ (L k = true → nrOs n hk = true) := by
      intro ns hi hn n hm
      obtain ⟨c1, c2, c3⟩ := nsOK_spec hn hm
      have hind : ∀ j y, acc[j]? = some y → L j = true → nrA n y.r = true ∧ nrOs n (bif Nat.beq j k then hk else y.h) = true := fun j y hy hL => by
        have := indepI_spec (j := 0) (k := j) hi (withK_get (i := 0) hy) (by rw [Nat.zero_add]; rintro rfl; rw [hLi] at hL; cases hL) (by
          rw [Nat.zero_add]
          cases hh : depOf deps j i with
          | false => rfl
          | true => have := hcl j i hL hh; rw [hLi] at this; cases this) n hm
        rw [Nat.zero_add] at this
        cases hb : Nat.beq j k with
        | true => rw [hb] at this; exact this
        | false => rw [hb] at this; exact this
      refine ⟨c1, ?_, ?_, fun hLk => ?_⟩
      · rw [nrS_append, c2, Bool.and_true]
        exact nrS_pick fun j y hy hL => (hind j y hy (by rw [Nat.zero_add] at hL; exact hL)).1
      · rw [nrOs_append, c3, Bool.and_true]
        refine nrOs_pick fun j y hy hL => ?_
        rw [Nat.zero_add] at hL
        have := (hind j y hy hL).2
        cases hb : Nat.beq j k with
        | false => rw [hb] at this; exact this
        | true =>
          have hjk := Nat.eq_of_beq_eq_true hb
          subst hjk
          obtain ⟨xk, hxk⟩ : ∃ x, hd[j]? = some x := ⟨hd[j]'(by omega), by simp [show j < hd.length from by omega]⟩
          obtain ⟨dl', _, _, _, _, _, h1, _, h2, _⟩ := g4 j xk hxk
          rw [hy] at h1; cases h1
          rcases h2 with ⟨_, h2, _⟩ | ⟨h2, _⟩
          · rw [h2]; rfl
          · simp at h2
      · have := (hind k _ (by simp [show k < acc.length from a8]; rfl) hLk).2
        simpa using this
    show AXI C false [] [x] (stG k dk p q hk sl own acc L) (fun st' => Wk C st' (stG k dk p q hk sl own acc L'))
    rcases hstep with ⟨s1, sh, s2, s3⟩ | ⟨s1, slm, s2, s3, s5⟩
    · have s1 := Nat.eq_of_beq_eq_true s1
      have s2 := Nat.eq_of_beq_eq_true s2
      subst s1 s2
      have e1 : stG i dl.d p q hk sl own acc L = ⟨pickS L 0 acc ++ sl, pickH L 0 acc ++ own⟩ := by unfold stG; rw [hLi]; rfl
      have e2 : stG i dl.d p q hk sl own acc L' = ⟨fltS q dl.d (pickS L' 0 acc ++ sl), hk ++ pgOs p (pickH L' 0 acc ++ own)⟩ := by unfold stG; rw [hL'i]; rfl
      rw [e1, e2]
      refine (s3 _ _ hvS hvO (freeN_mk b1 (fun n hn => ⟨(hnr FN b3 b2 n hn).1, (hnr FN b3 b2 n hn).2.1, (hnr FN b3 b2 n hn).2.2.1⟩))).mono ?_
      rintro st' ⟨u1, u2, u3, u4⟩
      refine wk_le2 (fun t y hy => ?_) (fun e ob he => ?_)
      · rcases get_flt hy with rfl | ⟨h1, h2⟩
        · exact .inl rfl
        · rcases hS t y h1 with ⟨rfl, rfl⟩ | ⟨h3, h4⟩
          · exact u1
          · right
            rcases h2 with h2 | h2
            · exact absurd h2 h3
            · exact u2 t y h3 h4 h2
      · rcases get_app _ _ _ _ he with h1 | ⟨h1, h2⟩
        · exact u3 e ob h1
        · obtain ⟨ob0, h3, rfl⟩ := get_pgOs_of h2
          rcases hO e ob0 h3 with h4 | ⟨_, h4⟩
          · rw [sh] at h4; simp [get] at h4
          · exact u4 e ob0 h1 h4
    · have hik : i ≠ k := fun h => by subst h; simp at s1
      have hL'k : L' k = L k := by show (Nat.beq i k || L k) = L k; rw [s1, Bool.false_or]
      have hind : indepI deps i (dl.h.map Prod.fst) 0 (withK k hk 0 acc) = true := by
        have := indepB_spec (i := 0) a6 hdl
        rwa [Nat.zero_add] at this
      have hnsO : nsOK sl own (dl.h.map Prod.fst) = true := by
        have key : ∀ ns : List Nat, (∀ n ∈ ns, n ∈ allNs acc) → nsOK sl own ns = true := by
          intro ns
          induction ns with
          | nil => intro _; rfl
          | cons n ns ih =>
            intro hn
            obtain ⟨c1, c2, c3⟩ := nsOK_spec a5 (hn n List.mem_cons_self)
            rw [nsOK, c2, c3, ih (fun m hm => hn m (List.mem_cons_of_mem _ hm)), Nat.ble_eq_true_of_le c1]; rfl
        exact key _ (ns_distinct a3 hdl).2
      cases hLk : L k with
      | false =>
        have e1 : stG k dk p q hk sl own acc L = ⟨pickS L 0 acc ++ sl, pickH L 0 acc ++ own⟩ := by unfold stG; rw [hLk]; rfl
        have e2 : stG k dk p q hk sl own acc L' = ⟨pickS L' 0 acc ++ sl, pickH L' 0 acc ++ own⟩ := by unfold stG; rw [hL'k, hLk]; rfl
        rw [e1, e2]
        have hki : hkv (depOf deps i k) hk = [] := by
          unfold hkv
          cases hh : depOf deps i k with
          | false => rfl
          | true => have := hdep k hh; rw [hLk] at this; cases this
        rw [hki] at s5
        refine (s5 _ _ (fun t y hy => hvS t y (keepK_get s2 t y hy)) (fun e ob he => hvO e ob (outO_get he).2) (freeN_mk (ns_distinct a3 hdl).1 (fun n hn => ⟨(hnr _ hind hnsO n hn).1, (hnr _ hind hnsO n hn).2.1, (hnr _ hind hnsO n hn).2.2.1⟩))).mono ?_
        rintro st' ⟨u1, u2⟩
        refine wk_le2 (fun t y hy => .inr (u1 t y ?_)) (fun e ob he => u2 e ob ?_)
        · rcases hS t y hy with ⟨rfl, rfl⟩ | ⟨h3, h4⟩
          · exact get_cons_self _ _ _
          · rw [get_cons_ne _ _ (fun h => h3 h.symm)]; exact h4
        · rcases hO e ob he with h2 | ⟨h2, h3⟩
          · rw [get_append, h2]
          · rw [get_append, h2]; exact h3
      | true =>
        have e1 : stG k dk p q hk sl own acc L = ⟨fltS q dk (pickS L 0 acc ++ sl), hk ++ pgOs p (pickH L 0 acc ++ own)⟩ := by unfold stG; rw [hLk]; rfl
        have e2 : stG k dk p q hk sl own acc L' = ⟨fltS q dk (pickS L' 0 acc ++ sl), hk ++ pgOs p (pickH L' 0 acc ++ own)⟩ := by unfold stG; rw [hL'k, hLk]; rfl
        rw [e1, e2]
        have hdk : depOf deps k i = false := by
          cases hh : depOf deps k i with
          | false => rfl
          | true => have := hcl k i hLk hh; rw [hLi] at this; cases this
        rw [hdk] at s3
        obtain ⟨v1, v2, v3, v4, v5⟩ := s3.resolve_left (by simp)
        have hdis : ∀ e ob, get dl.h e = some ob → get hk e = none := fun e ob he => by
          cases hg : get hk e with
          | none => rfl
          | some o =>
            have := List.all_eq_true.1 v5 e (get_mem_fst he)
            rw [memb_iff.2 (get_mem_fst hg)] at this; cases this
        refine (s5 _ _ (fun t y hy => ?_) (fun e ob he => ?_) (freeN_mk (ns_distinct a3 hdl).1 (fun n hn => ?_))).mono ?_
        · have h1 := hvS t y (keepK_get s2 t y hy)
          rw [← v1] at hy
          rcases get_flt hy with rfl | ⟨_, h2⟩
          · rw [get_fltS, h1, Option.map_some]
            cases (Nat.beq t dk || q .dead) <;> rfl
          · exact flt_get h1 h2
        · have hob := allP_get v2 he
          obtain ⟨hb, he⟩ := outO_get he
          have hrest : get hk e = none → get ownv e = some ob → get (hk ++ pgOs p (pickH L 0 acc ++ own)) e = some ob := fun h1 h2 => by
            rw [get_append, h1, get_pgOs_some (hvO e ob h2), hob]
          unfold hkv at he
          cases hdk' : depOf deps i k with
          | true =>
            rw [hdk', cond_true] at he
            rcases get_app _ _ _ _ he with h1 | ⟨h1, h2⟩
            · rw [get_append, h1]
            · exact hrest h1 h2
          | false =>
            rw [hdk', cond_false, List.nil_append] at he
            refine hrest ?_ he
            rcases v3 with v3 | v3
            · rw [hdk'] at v3; cases v3
            · cases hg : get hk e with
              | none => rfl
              | some o => exact absurd (memb_iff.1 (List.all_eq_true.1 v3 e (get_mem_fst hg))) hb
        · obtain ⟨c1, c2, c3, c4⟩ := hnr _ hind hnsO n hn
          refine ⟨c1, nrS_flt c2, ?_⟩
          show nrOs n (hk ++ pgOs p (pickH L 0 acc ++ own)) = true
          rw [nrOs_append, c4 hLk, nrOs_pgOs c3]; rfl
        · rintro st' ⟨u1, u2⟩
          refine wk_le2 (fun t y hy => ?_) (fun e ob he => u2 e ob ?_)
          · rcases get_flt hy with rfl | ⟨h1, h2⟩
            · exact .inl rfl
            · right
              refine u1 t y ?_
              rcases hS t y h1 with ⟨rfl, rfl⟩ | ⟨h3, h4⟩
              · exact get_cons_self _ _ _
              · rw [get_cons_ne _ _ (fun h => h3 h.symm)]
                exact flt_get h4 h2
          · rcases get_app _ _ _ _ he with h1 | ⟨h1, h2⟩
            · have : get dl.h e = none := by
                cases hg : get dl.h e with
                | none => rfl
                | some o => rw [hdis e o hg] at h1; cases h1
              rw [get_append, this]
              show get (hk ++ _) e = some ob
              rw [get_append, h1]
            · obtain ⟨ob0, h3, rfl⟩ := get_pgOs_of h2
              rcases hO e ob0 h3 with h4 | ⟨h4, h5⟩
              · rw [get_append, h4, allP_get v4 h4]
              · rw [get_append, h4]
                show get (hk ++ _) e = _
                rw [get_append, h1]; exact get_pgOs_some h5
end Go.AM

/- AM, part 32: the steps that turn own blocks in such a region; slices of own slices, as cells. -/
namespace Go.AM

theorem dropR_keep {e : Nat} : ∀ {sl : List (Nat × AV)} {t : Nat} {y : AV}, get sl t = some y → nrA e y = true → get (dropR e sl) t = some y
  | (k, x) :: r, t, y, h, hn => by
    rw [get_cons] at h
    rw [dropR]
    split at h
    · rename_i hk
      cases h
      rw [hn, cond_true, get_cons, if_pos hk]
    · rename_i hk
      have ih := dropR_keep h hn
      cases nrA e x with
      | true => rw [cond_true, get_cons, if_neg hk]; exact ih
      | false => rw [cond_false, get_cons, if_neg hk]; exact ih

section
variable {C : Cx} {slm : List (Nat × AV)} {ownm : List (Nat × OB)}
theorem locl_app {d sz bytes e len n' : Nat} {zs : List K} {x y : XA} {v : AV} {rs rows rs' : List (List D)} (hx : evA slm x = some (.osl e sz 0 len)) (he : get ownm e = some (.rows sz rs)) (hlen : len ≤ rs.length)
    (hy : evA slm y = some v) (hsrc : ∀ sl own, (∀ e ob, get ownm e = some ob → get own e = some ob) → SrcOK C ⟨sl, own⟩ sz v rows) (hm : e < 1000 ∨ C.mv e = true) (hb : (2 * (len + rows.length) + 256) * bytes ≤ 2 ^ 48)
    (hn : len + rows.length = n') (hrs : rs.take len ++ rows = rs') :
    LocL C (Nat.beq e) (nrA e) [] slm ownm (.op (some d) (.app sz bytes zs x y)) d (.osl e sz 0 n') [(e, .rows sz rs')] := by
  intro sl own h1 h2 _
  refine ax_e (e_appn (evA_mono h1 hx) (h2 _ _ he) hlen (evA_mono h1 hy) (hsrc sl own h2) hm hb hn hrs) (ax_nil ⟨.inr (get_cons_self _ _ _), fun t z ht hz hq => ?_, fun k ob hk => ?_, fun k ob hk hg => ?_⟩)
  · show get ((d, _) :: dropR e sl) t = some z
    rw [get_cons_ne _ _ (fun h => ht h.symm)]
    exact dropR_keep hz hq
  · show get ((e, OB.rows sz rs') :: dropO e own) k = some ob
    rw [get_cons] at hk ⊢
    split at hk
    · rename_i h; rw [if_pos h]; exact hk
    · simp [get] at hk
  · show get ((e, OB.rows sz rs') :: dropO e own) k = some (pgO (Nat.beq e) ob)
    have hne : e ≠ k := fun h => by rw [get_cons, if_pos h] at hk; cases hk
    rw [get_cons_ne _ _ hne, dropO_eq]
    exact get_pgOs_some hg

theorem locl_call {P : Program} {mv mvc : Nat → Bool} {d f : Nat} {args : List XA} {vs args0 : List AV} {r : AV} {h0 h' : List (Nat × OB)} (σ : Nat → Nat) (N0 : List Nat) (τ : Nat → Nat) (N1 : List Nat) (ha : evL slm args = some vs)
    (hcon : Con P mv f args0 h0 (fun r' h => r' = r ∧ h = h')) (hP : C.P = P) (hmv : C.mv = mvc)
    (c1 : domIn N0 h0 = true) (c2 : domIs h0 N0 = true) (c3 : allBig N0 = true) (c4 : distinct (N0.map σ) = true) (c5 : ownIs σ ownm h0) (c6 : refsInOs N0 h0 = true) (c7 : mvOK mv mvc σ N0 = true) (c8 : mvd mv σ N0 = [])
    (hA : LB σ N0 [] vs args0)
    (r1 : refsIn (N0 ++ N1) r = true) (r2 : domIs h' (N0 ++ N1) = true) (r3 : AM.domIn (N0 ++ N1) h' = true) (r4 : refsInOs (N0 ++ N1) h' = true) (r5 : ∀ e ∈ N0, τ e = σ e) (r6 : distinct ((N0 ++ N1).map τ) = true)
    :
    LocL C (fun _ => false) (fun _ => true) (N1.map τ) slm ownm (.call (some d) f args) d (renA τ r) (renOs τ h') := by
  intro sl own h1 h2 hf
  have hown : ∀ {h : List (Nat × OB)}, ownIs σ ownm h → ownIs σ own h := by
    intro h
    induction h with
    | nil => intro _; exact trivial
    | cons x r ih => intro hh; exact ⟨h2 _ _ hh.1, ih hh.2⟩
  refine ax_call (evL_mono h1 ha) (vcall_own hcon hP hmv false σ N0 ⟨c1, c2, c3, c4, hown c5, c6, c7, by rw [c8]; rfl⟩ hA ?_)
  rintro r' h ⟨rfl, rfl⟩
  refine ⟨τ, N1, ⟨r1, r2, r3, r4, r5, hf, r6, fun h => by cases h⟩, ?_⟩
  rw [c8]
  refine ax_nil ⟨.inr (get_cons_self _ _ _), fun t z ht hz _ => ?_, fun k ob hk => ?_, fun k ob hk hg => ?_⟩
  · show get ((d, _) :: sl) t = some z
    rw [get_cons_ne _ _ (fun h => ht h.symm)]; exact hz
  · show get (renOs τ h ++ own) k = some ob
    rw [get_append, hk]
  · show get (renOs τ h ++ own) k = some (pgO (fun _ => false) ob)
    rw [get_append, hk, pgO_id _ (fun _ => rfl)]; exact hg

/-- What turns nothing. -/
theorem locl_of {x : XI} {d : Nat} {r : AV} (h : Loc C slm ownm x ⟨d, r, []⟩) : LocL C (fun _ => false) (fun _ => true) [] slm ownm x d r [] := by
  intro sl own g1 g2 _
  refine (h sl own g1 g2 rfl).mono ?_
  rintro st' ⟨u1, u2⟩
  exact ⟨.inr (u1 _ _ (get_cons_self _ _ _)), fun t y ht hy _ => u1 t y (by rw [get_cons_ne _ _ (fun h => ht h.symm)]; exact hy), fun e ob he => by simp [get] at he, fun e ob _ he => by rw [pgO_id _ (fun _ => rfl)]; exact u2 e ob he⟩
/-- A store into an own box, or into a row. -/
theorem locl_st {n e o d : Nat} {x y : XA} {v : AV} {cells cs r : List AV} (hx : evA slm x = some (.ptr e o)) (he : get ownm e = some (.box cells)) (hy : evA slm y = some v) (hc : cellsA v = some cs)
    (h1 : onesA cs = true) (hn : Nat.beq cs.length n = true) (hl : setF cells o cs = some r) : LocL C (fun _ => false) (fun _ => true) [] slm ownm (.op none (.store n x y)) d .dead [(e, .box r)] := by
  intro sl own g1 g2 _
  refine ax_e (e_st (evA_mono g1 hx) (g2 _ _ he) (evA_mono g1 hy) hc h1 hn hl) (ax_nil ⟨.inl rfl, fun t y _ h _ => h, fun k ob hk => ?_, fun k ob hk hg => ?_⟩)
  · show get ((e, OB.box r) :: own) k = some ob
    rw [get_cons] at hk ⊢
    split at hk
    · rename_i h; rw [if_pos h]; exact hk
    · simp [get] at hk
  · show get ((e, OB.box r) :: own) k = some (pgO (fun _ => false) ob)
    have hne : e ≠ k := fun h => by rw [get_cons, if_pos h] at hk; cases hk
    rw [get_cons_ne _ _ hne, pgO_id _ (fun _ => rfl)]; exact hg
theorem locl_str {n e sz i o d : Nat} {x y : XA} {v : AV} {rs rs' : List (List D)} {row q : List D} {cs : List AV} {ds : List D} (hx : evA slm x = some (.rptr e sz i o)) (he : get ownm e = some (.rows sz rs))
    (hy : evA slm y = some v) (hc : cellsA v = some cs) (hds : toDs cs = some ds) (hn : Nat.beq ds.length n = true) (hr : rs[i]? = some row) (hl : Nat.ble (o + n) sz = true) (hrow : setF row o ds = some q) (hset : rs.set i q = rs') :
    LocL C (fun _ => false) (fun _ => true) [] slm ownm (.op none (.store n x y)) d .dead [(e, .rows sz rs')] := by
  intro sl own g1 g2 _
  refine ax_e (e_str (evA_mono g1 hx) (g2 _ _ he) (evA_mono g1 hy) hc hds hn hr hl hrow hset) (ax_nil ⟨.inl rfl, fun t y _ h _ => h, fun k ob hk => ?_, fun k ob hk hg => ?_⟩)
  · show get ((e, OB.rows sz rs') :: own) k = some ob
    rw [get_cons] at hk ⊢
    split at hk
    · rename_i h; rw [if_pos h]; exact hk
    · simp [get] at hk
  · show get ((e, OB.rows sz rs') :: own) k = some (pgO (fun _ => false) ob)
    have hne : e ≠ k := fun h => by rw [get_cons, if_pos h] at hk; cases hk
    rw [get_cons_ne _ _ hne, pgO_id _ (fun _ => rfl)]; exact hg
theorem locl_cpy {d sz e s len n' : Nat} {x y : XA} {v : AV} {rs rows rs' : List (List D)} (hx : evA slm x = some (.osl e sz s len)) (he : get ownm e = some (.rows sz rs)) (hl : s + len ≤ rs.length) (hy : evA slm y = some v)
    (hsrc : ∀ sl own, (∀ e ob, get ownm e = some ob → get own e = some ob) → SrcOK C ⟨sl, own⟩ sz v rows) (hn : min rows.length len = n') (hrs : rs.take s ++ rows.take n' ++ rs.drop (s + n') = rs') :
    LocL C (fun _ => false) (fun _ => true) [] slm ownm (.op (some d) (.cpy sz x y)) d (.d (.int .i64 (n' : Nat))) [(e, .rows sz rs')] := by
  intro sl own g1 g2 _
  subst hn hrs
  refine ax_e (e_cpy (evA_mono g1 hx) (g2 _ _ he) hl (evA_mono g1 hy) (hsrc sl own g2)) (ax_nil ⟨.inr (get_cons_self _ _ _), fun t z ht hz _ => ?_, fun k ob hk => ?_, fun k ob hk hg => ?_⟩)
  · show get ((d, _) :: sl) t = some z
    rw [get_cons_ne _ _ (fun h => ht h.symm)]; exact hz
  · show get ((e, OB.rows sz _) :: own) k = some ob
    rw [get_cons] at hk ⊢
    split at hk
    · rename_i h; rw [if_pos h]; exact hk
    · simp [get] at hk
  · show get ((e, OB.rows sz _) :: own) k = some (pgO (fun _ => false) ob)
    have hne : e ≠ k := fun h => by rw [get_cons, if_pos h] at hk; cases hk
    rw [get_cons_ne _ _ hne, pgO_id _ (fun _ => rfl)]; exact hg
end

/-! Slices of own slices. -/
theorem evL_len {sl : List (Nat × AV)} : ∀ {xs : List XA} {vs : List AV}, evL sl xs = some vs → vs.length = xs.length
  | [], vs, h => by simp only [evL, Option.some.injEq] at h; subst h; rfl
  | x :: xs, vs, h => by
    rw [evL] at h
    split at h
    · split at h
      · rename_i ys hys
        cases h
        simp [evL_len hys]
      · cases h
    · cases h
theorem bslice_fillA {C : Cx} {st : St} {a : Act} {w : World} {β : Names} (S : SatB C st a w β) : ∀ (ps : List (Nat × Operand)) (xs : List XA) (k : Nat) (vs : List AV) (pre suf : List Value), fitSeq k ps xs = true → evL st.sl xs = some vs → onesA vs = true →
    pre.length = k → suf.length = xs.length →
    ∃ us : List Value, Instr.fill (fun i => some (i * 1, 1)) (pre ++ suf).toArray (ps.map fun x => (x.1, a.eval x.2)) = some (pre ++ us).toArray ∧ us.length = xs.length ∧ AL C.X β w vs us
  | [], [], k, vs, pre, suf, _, h, _, hp, hs => by
    simp only [evL, Option.some.injEq] at h; subst h
    have : suf = [] := by apply List.eq_nil_of_length_eq_zero; rw [hs]; rfl
    subst this
    exact ⟨[], rfl, rfl, by rw [AL]⟩
  | (i, o) :: ps, x :: xs, k, vs, pre, suf, hf, h, h1s, hp, hs => by
    simp only [fitSeq, Bool.and_eq_true] at hf
    obtain ⟨⟨h1, h2⟩, h3⟩ := hf
    have h1 := Nat.eq_of_beq_eq_true h1
    subst h1
    rw [evL] at h
    split at h
    · rename_i v hv
      split at h
      · rename_i r hr
        cases h
        simp only [onesA, Bool.and_eq_true] at h1s
        have h6 := AR_of_fitA S h2 hv
        obtain ⟨h7, _⟩ := one_of h1s.1 h6
        have h8 : (a.eval o).cells.toList = [a.eval o] := by rw [h7]
        have hsplit : suf = suf.take 1 ++ suf.drop 1 := (List.take_append_drop 1 suf).symm
        obtain ⟨us, h9, h10, h11⟩ := bslice_fillA S ps xs (i + 1) r (pre ++ [a.eval o]) (suf.drop 1) h3 hr h1s.2 (by simp [hp]) (by simp [hs])
        refine ⟨a.eval o :: us, ?_, by simp [h10], by rw [AL]; exact ⟨_, _, rfl, h6, h11⟩⟩
        rw [List.map_cons, Instr.fill]
        simp only
        have hsz : (a.eval o).cells.size = 1 := by rw [h7]; rfl
        rw [if_neg (by have hs' := hs; rw [List.length_cons] at hs'; simp [hsz]; omega)]
        have hsl : 0 < suf.length := by rw [hs]; simp
        have e2 : ((a.eval o).cells.zipIdx.foldl (fun (cs : Array Value) (x : Value × Nat) => cs.setIfInBounds (i * 1 + x.2) x.1) (pre ++ suf).toArray) = (pre ++ [a.eval o] ++ suf.drop 1).toArray := by
          apply Array.ext'
          rw [← Array.foldl_toList, Array.toList_zipIdx]
          have := foldl_set (i * 1) (a.eval o).cells.toList 0 (pre ++ suf).toArray
          rw [Nat.add_zero] at this
          rw [this]
          simp only
          rw [h8, show pre ++ suf = pre ++ suf.take 1 ++ suf.drop 1 from by rw [List.append_assoc, List.take_append_drop], Nat.mul_one, ← hp, setL_mid _ _ _ _ (by simp; omega)]
        have e3 : ((a.eval o).cells.zipIdx.foldl (fun (cs : Array Value) (c, j) => cs.setIfInBounds (i * 1 + j) c) (pre ++ suf).toArray) = (pre ++ [a.eval o] ++ suf.drop 1).toArray := e2
        rw [e3, h9, List.append_assoc]
        rfl
      · cases h
    · cases h
  | [], _ :: _, _, _, _, _, hf, _, _, _, _ => by simp [fitSeq] at hf
  | _ :: _, [], _, _, _, _, hf, _, _, _, _ => by simp [fitSeq] at hf

theorem e_bsliceB {C : Cx} {sl : List (Nat × AV)} {own : List (Nat × OB)} {d : Nat} {xs : List XA} {vs : List AV} (hr : evL sl xs = some vs) (h1s : onesA vs = true) (h3s : nrL d vs = true) (hd' : d < 1000) (h1 : nrS d sl = true) (h2 : nrOs d own = true) :
    EStep C ⟨sl, own⟩ (some d) (.bslice 1 xs) ⟨(d, .osl d 1 0 vs.length) :: sl, (d, .box vs) :: own⟩ := by
  intro o ho hd hf a w β S
  have hd := hd _ rfl
  simp only [fits] at hf
  split at hf
  · rename_i t len ps hop
    simp only [Bool.and_eq_true, decide_eq_true_eq] at hf
    obtain ⟨⟨⟨⟨h3, h4⟩, h5⟩, h6⟩, h7⟩ := hf
    have h4 := Nat.eq_of_beq_eq_true h4
    subst h4
    split at h3
    · rename_i e he
      simp only [Bool.and_eq_true] at h3
      obtain ⟨h8, h9⟩ := h3
      split at h9
      · rename_i ti hti
        obtain ⟨z, hz⟩ := Option.isSome_iff_exists.1 h9
        have hzv : (zeroValue e).run C.P w = .ok z w := by simp [zeroValue, typeInfo, hti, hz]
        have hvl : vs.length = xs.length := evL_len hr
        have main : ∀ zc : Array Value, ∃ us : List Value, Instr.fill (fun i => some (i * 1, 1)) ((Array.range (xs.length * 1)).map (zc[· % zc.size]!)) (ps.map fun x => (x.1, a.eval x.2)).toList = some us.toArray ∧ us.length = xs.length ∧ AL C.X β w vs us := by
          intro zc
          have := bslice_fillA S ps.toList xs 0 vs [] ((Array.range (xs.length * 1)).map (zc[· % zc.size]!)).toList h5 hr h1s rfl (by simp)
          simp only [List.nil_append, Array.toArray_toList] at this
          rw [Array.toList_map]
          exact this
        have fin : ∀ us : List Value, us.length = xs.length → AL C.X β w vs us →
            SatB C ⟨(d, .osl d 1 0 vs.length) :: sl, (d, .box vs) :: own⟩ (a.put (some d) (.slice (some ⟨w.heap.size, 0, none⟩) xs.length xs.length)) { w with heap := w.heap.push (.cells us.toArray e) } (setN β d (some w.heap.size)) := by
          intro us q1 q2
          refine (S.alloc' hd' h1 h2 (box_new vs us.toArray e (by simpa using q2) h3s)).put hd ?_
          rw [AR]
          refine ⟨some ⟨w.heap.size, 0, none⟩, xs.length, by rw [hvl], by omega, ?_⟩
          exact .inr ⟨w.heap.size, us.toArray, e, (0, 0), by simp [setN], by simp, heap_push_new, by simp [q1]⟩
        have hz1 : (sizeOf e).run C.P w = .ok 1 w := szIs_some h8 w
        have e1 : (ps.map fun x : Nat × Operand => match x with | (i, x) => (i, a.eval x)) = ps.map fun x => (x.1, a.eval x.2) := rfl
        by_cases hlen : xs.length * 1 = 0
        · obtain ⟨us, q1, q2, q3⟩ := main #[]
          refine ⟨_, _, _, ?_, .inr ⟨_, rfl, fin us q2 q3⟩⟩
          simp only [execOp, hop, Instr.buildSlice, Sem.run_bind, run_underlying (sliceOf_some he), Result.andThen_ok, hz1]
          rw [if_neg (by omega)]
          simp only [hlen, if_true, Sem.run_pure, Sem.run_bind, Result.andThen_ok]
          rw [e1]
          rw [hlen] at q1
          rw [q1]
          simp [newRow, newObj, Sem.run]
        · obtain ⟨us, q1, q2, q3⟩ := main z.cells
          refine ⟨_, _, _, ?_, .inr ⟨_, rfl, fin us q2 q3⟩⟩
          simp only [execOp, hop, Instr.buildSlice, Sem.run_bind, run_underlying (sliceOf_some he), Result.andThen_ok, hz1]
          rw [if_neg (by omega)]
          simp only [hlen, if_false, Sem.run_pure, Sem.run_bind, Result.andThen_ok, hzv]
          rw [e1, q1]
          simp [newRow, newObj, Sem.run]
      · cases h9
    · cases h3
  · cases hf
end Go.AM
namespace Go.AM
theorem loc_bsliceB {C : Cx} {slm : List (Nat × AV)} {ownm : List (Nat × OB)} {d : Nat} {xs : List XA} {vs : List AV} (hr : evL slm xs = some vs) (h1s : onesA vs = true) (h3s : nrL d vs = true) : Loc C slm ownm (.op (some d) (.bslice 1 xs)) ⟨d, .osl d 1 0 vs.length, [(d, .box vs)]⟩ := by
  intro sl own h1 h2 hf
  obtain ⟨f1, f2, f3⟩ := freeN_one hf
  exact ax_e (e_bsliceB (evL_mono h1 hr) h1s h3s f1 f2 f3) (ax_nil ⟨fun t y h => h, fun e ob h => h⟩)
theorem la_oslb {own : List (Nat × OB)} {e len : Nat} {cells : List AV} {ds : List D} (h : get own e = some (.box cells)) (hl : LendL own cells ds) (hn : len = ds.length) : LA own (.osl e 1 0 len) (.d (.sl 1 (ds.map fun d => [d]))) := .lend (.oslb h hl hn rfl)
end Go.AM

/- AM, part 33: append to a slice that begins within its block; nil's capacity. -/
namespace Go.AM
/-- A step with an effect that is not told to the end. -/
def EStepP (C : Cx) (st : St) (d : Option Nat) (x : XOp) (Q : St → Prop) : Prop :=
  ∀ o, o.dst = d → (∀ k, d = some k → k < C.n) → fits C.P o x = true → ∀ a w β, SatB C st a w β → ∃ st' r w' β', Q st' ∧ (execOp a.eval o).run C.P w = .ok r w' ∧
    ((r = .skip ∧ SatB C st' (a.put d undef) w' β') ∨ ∃ v, r = .value v ∧ SatB C st' (a.put d v) w' β')
section
variable {C : Cx} {sl : List (Nat × AV)} {own : List (Nat × OB)}
theorem e_app_off {d sz bytes e s len : Nat} {zs : List K} {x y : XA} {v : AV} {rs rows : List (List D)} (hx : evA sl x = some (.osl e sz s len)) (he : get own e = some (.rows sz rs)) (hlen : s + len ≤ rs.length)
    (hy : evA sl y = some v) (hsrc : SrcOK C ⟨sl, own⟩ sz v rows) (hm : e < 1000 ∨ C.mv e = true) (hb : (2 * (len + rows.length) + 256) * bytes ≤ 2 ^ 48) :
    EStepP C ⟨sl, own⟩ (some d) (.app sz bytes zs x y) (fun st' => ∃ s' rs', st' = ⟨(d, .osl e sz s' (len + rows.length)) :: dropR e sl, (e, .rows sz rs') :: dropO e own⟩ ∧ s' + (len + rows.length) ≤ rs'.length ∧ (rs'.drop s').take (len + rows.length) = (rs.drop s).take len ++ rows) := by
  intro o ho hd hf a w β S
  have hd := hd _ rfl
  obtain ⟨p, q, t, u, el, d2, hop, ht, hz, hby, hzero, hsz1, hb1, hu, hd2, hp, hq⟩ := app_fit hf
  have h1 := AR_of_fitA S hp hx
  have h2 := AR_of_fitA S hq hy
  obtain ⟨hn, vs, hvl, hvr, hfc, hones⟩ := hsrc a w β _ S h2
  obtain ⟨_, vs0, hvl0, hvr0, hfc0, _⟩ := src_osl (C := C) (st := ⟨sl, own⟩) he (s := s) (by omega) a w β _ S h1
  have h1' := h1
  rw [AR] at h1
  obtain ⟨base, cap, h3, h4, h5⟩ := h1
  obtain ⟨ti, hti, htb⟩ := byIs_some hby
  have hrows0 : ((rs.drop s).take len).length = len := by simp; omega
  have hres : ∀ (r : Value) (w' : World), (Builtin.append_ #[t, u] o.type #[a.eval p, a.eval q]).run C.P w = .ok r w' → (execOp a.eval o).run C.P w = .ok (.value r) w' := by
    intro r w' hr
    simp only [execOp, hop, resolve, List.map_toArray, List.map_cons, List.map_nil, Sem.run_bind, Sem.run_pure, Result.andThen_ok, invoke, builtin, hr]
  rw [h3] at hres
  by_cases hroom : len + rows.length ≤ cap
  · -- within the capacity
    rcases h5 with h5 | ⟨b, c, ty, fr, h6, h7, h8, h9⟩
    · -- no capacity: nothing appended
      have hr0 : rows.length = 0 := by omega
      have hl0 : len = 0 := by omega
      have hrn : rows = [] := List.eq_nil_of_length_eq_zero hr0
      have hvn : vs = [] := List.eq_nil_of_length_eq_zero (by rw [hvl, hr0]; simp)
      have hrun := append_fits (sLen := len) (sCap := cap) (base := base) ht hz hu hd2 (hn w) (by have := hfc w (Ext.refl w) rows.length (Nat.le_refl _); rw [← hvl, List.take_length] at this; exact this) hroom (w' := w) (by
        subst hvn
        cases base with
        | none => rfl
        | some ad => rfl) o.type
      have hv' : AR C.X β w (.osl e sz s (len + rows.length)) (.slice base (len + rows.length) cap) := by
        rw [AR]; exact ⟨base, cap, rfl, hroom, .inl h5⟩
      refine ⟨_, _, w, β, ⟨s, rs, rfl, by omega, by rw [hrn, hl0]; simp⟩, hres _ _ hrun, .inr ⟨_, rfl, ?_⟩⟩
      have S1 := (S.purge (Nat.beq e)).drop
      rw [← dropO_eq] at S1
      have hob0 := S.hr.own e _ he
      have S2 : SatB C ⟨dropR e sl, (e, .rows sz rs) :: dropO e own⟩ a w β := {
        S1 with
        hr := ⟨S1.hr.inj, S1.hr.lt, S1.hr.notX, fun e' ob' h' => by
          simp only [get_cons] at h'
          split at h'
          · rename_i hee; cases h'; rw [← hee]; exact hob0
          · exact S1.hr.own e' ob' h'⟩ }
      exact S2.put hd hv'
    · subst h7
      have hob0 := S.hr.own e _ he
      rw [h6] at hob0
      obtain ⟨c0, ty0, fr0, q1, q2, q3, q4⟩ := hob0
      rw [h8] at q1; cases q1
      have hcap : (s + cap) * sz ≤ c.size := h9
      have hm1 : (s + len + rows.length) * sz ≤ c.size := Nat.le_trans (Nat.mul_le_mul_right _ (by omega)) hcap
      rw [Nat.add_mul] at hm1
      have hst := storeCells_run (P := C.P) (o := (s + len) * sz) (vs := vs) h8 q2.1 (by rw [hvl]; exact hm1) hones
      obtain ⟨w1, w2, w3, w4, w5, w6⟩ := setCells_world b vs ((s + len) * sz) w
      have hrun := append_fits (sLen := len) (sCap := cap) (base := some ⟨b, s * sz, none⟩) ht hz hu hd2 (hn w) (by have := hfc w (Ext.refl w) rows.length (Nat.le_refl _); rw [← hvl, List.take_length] at this; exact this) hroom
        (w' := w.setCells b ((s + len) * sz) vs) (by simp only [add_spot, ← Nat.add_mul]; exact hst) o.type
      refine ⟨_, _, _, β, ⟨s, rs.take (s + len) ++ rows, rfl, by simp; omega, by
        have e1 : (rs.take (s + len)).drop s = (rs.drop s).take len := by rw [List.drop_take]; congr 1; omega
        rw [List.drop_append_of_le_length (by simp; omega), e1, List.take_of_length_le (by simp; omega)]⟩, hres _ _ hrun, .inr ⟨_, rfl, ?_⟩⟩
      have hcc : ∀ c' ty' fr', w.heap[b]? = some (.cells c' ty' fr') → ∃ c'' ty'' fr'', (w.setCells b ((s + len) * sz) vs).heap[b]? = some (.cells c'' ty'' fr'') ∧ c''.size = c'.size := fun c' ty' fr' h =>
        ⟨_, _, _, w6 c' ty' fr' h, by simp [setL_length]⟩
      have T := Tr.store (X := C.X) h6 w4 w5 hcc
      have hlc : (c.toList.take ((s + len) * sz)).length = (s + len) * sz := by simp; omega
      have hset : setL c.toList ((s + len) * sz) vs = c.toList.take ((s + len) * sz) ++ vs ++ (c.toList.drop ((s + len) * sz)).drop vs.length := by
        have := setL_append (c.toList.take ((s + len) * sz)) (c.toList.drop ((s + len) * sz)) vs (by simp; omega)
        rw [List.take_append_drop, hlc] at this
        exact this
      have hob : OBR C.X β (w.setCells b ((s + len) * sz) vs) (.rows sz (rs.take (s + len) ++ rows)) (some b) := by
        refine ⟨_, ty, fr, w6 c ty fr h8, by simpa [setL_length] using q2, by
          have e2 : (rs.take (s + len) ++ rows).length = s + len + rows.length := by simp; omega
          rw [e2, Nat.add_mul]; simpa [setL_length] using hm1, ?_⟩
        rw [hset]
        exact (RowsR_more (RowsR_split (RowsR_take q4 (s + len)) (by rw [hlc]; simp [Nat.min_eq_left hlen]) hvr) _).mono T.keep
      have S1 := (S.purge (Nat.beq e)).drop
      rw [← dropO_eq] at S1
      have S2 := S1.store h6 ⟨w1, w2, w3⟩ w4 w5 hcc hob
      refine S2.put hd ?_
      rw [AR]
      exact ⟨_, cap, rfl, hroom, .inr ⟨b, _, ty, fr, h6, rfl, w6 c ty fr h8, by simp [setL_length]; exact hcap⟩⟩
  · -- beyond the capacity
    have ho' : ∀ w', Ext w w' → (Builtin.firstCells sz len (.slice base len cap)).run C.P w' = .ok vs0.toArray w' := fun w' hw' => by
      have := hfc0 w' hw' len (by rw [hrows0]; exact Nat.le_refl _)
      rw [hrows0] at hvl0
      rw [← hvl0, List.take_length, h3] at this
      exact this
    have hx' : ∀ w', Ext w w' → (Builtin.firstCells sz rows.length (a.eval q)).run C.P w' = .ok vs.toArray w' := fun w' hw' => by
      have := hfc w' hw' rows.length (Nat.le_refl _)
      rw [← hvl, List.take_length] at this
      exact this
    obtain ⟨z0, zv, hz1, hz2, hz3, hz4⟩ := zeroIs_some hzero
    rw [hti] at hz1; cases hz1
    have hbd : Builtin.nextslicecap (len + rows.length) cap * bytes ≤ 2 ^ 48 := Nat.le_trans (Nat.mul_le_mul_right _ (nextcap_le _ _ (by omega))) hb
    obtain ⟨newCap, w1, rest, c1, c2, c3, c4, c5⟩ := append_grows (sLen := len) (sCap := cap) (base := base) ht hz hti htb hb1 hz2 hu hd2 (hn w) hx' ho' hroom hbd o.type
    refine ⟨_, _, _, setN β e (some w1.heap.size), ⟨0, (rs.drop s).take len ++ rows, rfl, by simp only [List.length_append, hrows0]; omega, by rw [List.drop_zero, List.take_of_length_le (by simp only [List.length_append, hrows0]; omega)]⟩, hres _ _ c5, .inr ⟨_, rfl, ?_⟩⟩
    have S1 := S.ext c2
    have hw1 : w1.heap.size = w.heap.size := by rw [c3]
    obtain ⟨rl, hrl1, hrl2⟩ := zeroCells_toList zv.cells (newCap - (len + rows.length))
    have hrest : old_rest vs0 vs rest = (vs0 ++ vs ++ rl).toArray := by unfold old_rest; rw [c4, hrl1]; simp
    have hzc : zv.cells.size = sz := by
      have e1 := szIs_some hz w
      have e2 : (sizeOf el).run C.P w = .ok ti.size w := by simp [sizeOf, typeInfo, hti]
      rw [e2] at e1; simp at e1
      have := AL_len (fitZ_AL (X := C.X) (β := β) (w := w) hz3)
      simp at this
      omega
    have hsz2 : (vs0 ++ vs ++ rl).length = newCap * sz := by
      rw [hrows0] at hvl0
      simp only [List.length_append, hvl0, hvl, hrl2, hzc]
      rw [← Nat.add_mul, ← Nat.add_mul]
      congr 1; omega
    have hRR : RowsR C.X β w sz ((rs.drop s).take len ++ rows) (vs0 ++ vs ++ rl).toArray := RowsR_more (RowsR_split hvr0 (by rw [hvl0]) hvr) rl
    have hob := rows_new (d := e) (vs0 ++ vs ++ rl).toArray el (0, 0) (thaws_none _ _) (hRR.mono ⟨c2.size, fun b _ hb => c2.same b hb, fun b hb _ => hb⟩) (by
      simp only [List.size_toArray, hsz2, List.length_append, hrows0]
      exact Nat.mul_le_mul_right _ c1)
    have S2 := (S1.alloc (d := e) hm hob).drop
    rw [← dropO_eq] at S2
    have hpush : ({ w1 with heap := w1.heap.push (.cells (vs0.toArray ++ vs.toArray ++ rest) el) } : World) = { w1 with heap := w1.heap.push (.cells (vs0 ++ vs ++ rl).toArray el) } := by
      have : vs0.toArray ++ vs.toArray ++ rest = (vs0 ++ vs ++ rl).toArray := hrest
      rw [this]
    rw [hpush]
    refine S2.put hd ?_
    rw [AR]
    refine ⟨_, newCap, rfl, c1, .inr ⟨w1.heap.size, _, el, (0, 0), by simp [setN], by simp [hw1], heap_push_new, ?_⟩⟩
    simp only [List.size_toArray, hsz2, Nat.zero_add]
    exact Nat.le_refl _

theorem appz_fit {P : Program} {op : Oper} {sz bytes : Nat} {zs : List AM.K} {x y : XA} (hf : fits P op (.appz sz bytes zs x y) = true) :
    ∃ p q t u e k, op.op = .call { callee := .builtin .append, args := #[p, q], argTypes := #[t, u] } ∧ P.underlying t = some (.slice e) ∧ szIs P e sz = true ∧ byIs P e bytes = true ∧ zeroIs P e zs = true ∧ 1 ≤ sz ∧ 1 ≤ bytes ∧
      P.underlying u = some (.int k) ∧ fitA p x = true ∧ fitA q y = true := by
  simp only [fits] at hf
  split at hf
  · rename_i args ts ho
    split at hf
    · rename_i p q t u h1 h2
      simp only [Bool.and_eq_true] at hf
      obtain ⟨⟨⟨h3, h4⟩, h5⟩, h6⟩ := hf
      split at h3
      · rename_i e he
        simp only [Bool.and_eq_true] at h3
        split at h4
        · rename_i k hu
          exact ⟨p, q, t, u, e, k, by rw [ho, list2 h1, list2 h2], sliceOf_some he, h3.1.1.1.1, h3.1.1.1.2, h3.1.1.2, Nat.le_of_ble_eq_true h3.1.2, Nat.le_of_ble_eq_true h3.2, hu, h5, h6⟩
        · cases h4
      · cases h3
    · cases hf
  · cases hf
theorem appz_grows {P : Program} {w : World} {t u e : TypeId} {k : IntKind} {sz bytes n : Nat} {base : Option Addr} {i : TypeInfo} {z : Value} (ht : P.underlying t = some (.slice e)) (hz : szIs P e sz = true)
    (hi : P.info? e = some i) (hb : i.bytes = bytes) (hb1 : 1 ≤ bytes) (hsz : 1 ≤ sz) (hzero : i.zero = some z) (hu : P.underlying u = some (.int k)) (hn : 1 ≤ n) (hbound : n * bytes ≤ 2 ^ 48) (ty : TypeId) :
    ∃ newCap w1 cells, n ≤ newCap ∧ Ext w w1 ∧ w1.heap = w.heap ∧ newCap * z.cells.size ≤ cells.size ∧
      (Builtin.append_ #[t, u] ty #[.slice base 0 0, .int .i64 n]).run P w = .ok (.slice (some ⟨w.heap.size, 0, none⟩) n newCap) { w1 with heap := w1.heap.push (.cells cells e) } := by
  have hq : (Question.appendCap n 0 e).forced = false := rfl
  let newCap := (Question.appendCap n 0 e).cut (w.tape w.drawn (.appendCap n 0 e))
  let w1 : World := { w with drawn := w.drawn + 1 }
  have hcap : n ≤ newCap := by show n ≤ n + _ % _; omega
  have hch : (choose (.appendCap n 0 e)).run P w = .ok newCap w1 := by
    simp [choose, Sem.run, hq, newCap, w1]
  have hn48 : n ≤ 2 ^ 48 := Nat.le_trans (by have := Nat.mul_le_mul_left n hb1; omega) hbound
  have hwr : IntKind.i64.wrap (n : Int) = n := wrap_in (by omega) (by omega)
  have hl0 : ¬ ((n : Int) < 0) := by omega
  have hbd0 : ¬ ((n : Int) * (i.bytes : Int) > 2 ^ 48) := by rw [hb]; omega
  have hns : n * sz ≠ 0 := by
    have := Nat.mul_le_mul_left n hsz; omega
  have hnc : Builtin.nextslicecap n 0 = n := by unfold Builtin.nextslicecap; rw [if_pos (by omega)]
  have hby : (typeInfo e).run P w = .ok i w := by simp [typeInfo, hi]
  have hby1 : (typeInfo e).run P w1 = .ok i w1 := by simp [typeInfo, hi]
  have hzv : (zeroValue e).run P w1 = .ok z w1 := by simp [zeroValue, typeInfo, hi, hzero]
  have hbd : ¬ (n * i.bytes > 2 ^ 48) := by rw [hb]; omega
  have hneed : ¬ (n ≤ 0) := by omega
  have hmax : ¬ ((n : Int) > IntKind.i64.max) := by
    have : IntKind.i64.max = 9223372036854775807 := rfl
    rw [this]; omega
  have hold : (Builtin.firstCells sz 0 (.slice base 0 0)).run P w1 = .ok ([] : List Value).toArray w1 := by
    cases base with
    | none => simp [Builtin.firstCells]
    | some ad => simp [Builtin.firstCells, loadCells, loadCellsFrom]
  have hu2 : ∀ w', (underlying u).run P w' = .ok (.int k) w' := fun w' => run_underlying hu w'
  refine ⟨newCap, w1, ([] : List Value).toArray ++ Builtin.zeroCells z.cells n ++ Builtin.zeroCells z.cells (newCap - n), by omega, Ext.drew w, rfl, ?_, ?_⟩
  · have e : (([] : List Value).toArray ++ Builtin.zeroCells z.cells n ++ Builtin.zeroCells z.cells (newCap - n)).size = n * z.cells.size + (newCap - n) * z.cells.size := by simp [Builtin.zeroCells]
    rw [e, ← Nat.add_mul]
    exact Nat.mul_le_mul_right _ (by omega)
  · simp only [Builtin.append_, List.getElem?_toArray, List.getElem?_cons_zero, List.getElem?_cons_succ, Sem.run_bind, run_underlying ht, Result.andThen_ok, szIs_some hz, hu2, Sem.run_pure, asInt, asIntOf, hwr, Nat.zero_add, hl0, if_false, hby, hbd0, if_true,
      Int.toNat_natCast, hneed, hmax, false_and, hnc, hbd, hch, askRoom_run, hby1, hold, hns, hzv, Bool.not_true, Bool.false_eq_true]
    simp [newRow, newObj, Sem.run, w1]
    exact ⟨rfl, rfl, rfl⟩
theorem e_appz {d sz bytes z n : Nat} {zs : List AM.K} {x y : XA} (hx : evA sl x = some (.zs z)) (hy : evA sl y = some (.d (.int .i64 (n : Int)))) (hn : 1 ≤ n) (hd' : d < 1000) (g1 : nrS d sl = true) (g2 : nrOs d own = true) (hb : n * bytes ≤ 2 ^ 48) :
    EStep C ⟨sl, own⟩ (some d) (.appz sz bytes zs x y) ⟨(d, .osl d sz 0 n) :: sl, (d, .rows sz []) :: own⟩ := by
  intro o ho hd hf a w β S
  have hd := hd _ rfl
  obtain ⟨p, q, t, u, el, k, hop, ht, hz, hby, hzero, hsz1, hb1, hu, hp, hq⟩ := appz_fit hf
  have h1 := AR_of_fitA S hp hx
  have h2 := AR_of_fitA S hq hy
  rw [AR] at h1
  rw [AR, DR] at h2
  obtain ⟨base, h3⟩ := h1
  obtain ⟨ti, hti, htb⟩ := byIs_some hby
  obtain ⟨z0, zv, hz1, hz2, hz3, hz4⟩ := zeroIs_some hzero
  rw [hti] at hz1; cases hz1
  obtain ⟨newCap, w1, cells, c1, c2, c3, c4, c5⟩ := appz_grows (w := w) (base := base) ht hz hti htb hb1 hsz1 hz2 hu hn hb o.type
  have hrun : (execOp a.eval o).run C.P w = .ok (.value (.slice (some ⟨w.heap.size, 0, none⟩) n newCap)) { w1 with heap := w1.heap.push (.cells cells el) } := by
    simp only [execOp, hop, resolve, List.map_toArray, List.map_cons, List.map_nil, Sem.run_bind, Sem.run_pure, Result.andThen_ok, invoke, builtin, h3, h2, c5]
  have hzc : zv.cells.size = sz := by
    have e1 := szIs_some hz w
    have e2 : (sizeOf el).run C.P w = .ok ti.size w := by simp [sizeOf, typeInfo, hti]
    rw [e2] at e1; simp at e1
    have := AL_len (fitZ_AL (X := C.X) (β := β) (w := w) hz3)
    simp at this
    omega
  refine ⟨_, _, setN β d (some w1.heap.size), hrun, .inr ⟨_, rfl, ?_⟩⟩
  have S1 := S.ext c2
  have hw1 : w1.heap.size = w.heap.size := by rw [c3]
  have hob := rows_new (X := C.X) (β := β) (w := w1) (d := d) (sz := sz) (rs := []) cells el (0, 0) (thaws_none _ _) (fun i r hi => by simp at hi) (by simp)
  refine (S1.alloc' hd' g1 g2 hob).put hd ?_
  rw [AR]
  refine ⟨_, newCap, rfl, c1, .inr ⟨w1.heap.size, _, el, (0, 0), by simp [setN], by simp [hw1], heap_push_new, ?_⟩⟩
  rw [Nat.zero_add, ← hzc]; exact c4
theorem q_capS_zs {st : St} {x : XA} {z : Nat} (hx : evA st.sl x = some (.zs z)) : QStep C st (.capS x) (.d (.int .i64 0)) := by
  intro o hf a w β S
  simp only [fits] at hf
  split at hf
  · rename_i args ts hop
    split at hf
    · rename_i y t g1 g2
      simp only [Bool.and_eq_true] at hf
      have h5 := AR_of_fitA S hf.2 hx
      rw [AR] at h5
      obtain ⟨ad, h6⟩ := h5
      rw [list1 g1, list1 g2] at hop
      cases he : sliceOf C.P t with
      | none => rw [he] at hf; simp at hf
      | some e =>
        exact ⟨_, by rw [AR, DR], fun w' _ => by simp [execOp, hop, resolve, invoke, builtin, Builtin.cap_, h6, run_underlying (sliceOf_some he), goInt]⟩
    · cases hf
  · cases hf
theorem ax_eP {gs : List Gd} {K : St → Prop} {st : St} {Q : St → Prop} {d : Option Nat} {x : XOp} {its : List XI} (he : EStepP C st d x Q) (h : ∀ st', Q st' → AXI C false gs its st' K) : AXI C false gs (.op d x :: its) st K := by
  intro ops W R lo i k hf rest a w S G H
  obtain ⟨Q', hW⟩ := R.eff rfl
  subst hW
  obtain ⟨m, h1, h2, h3, h4⟩ := fitIs_cons hf
  obtain ⟨o, ho, hg, hd, hfr, hx, rfl⟩ := op_fit h1
  rw [range_split (by omega) h4, range_one, List.append_assoc, List.singleton_append]
  refine wpOps_cons ho (wanted_of hg G) ?_
  obtain ⟨β, S⟩ := S
  obtain ⟨st', r, w', β', hq, hr, hc⟩ := he o hd (dstFree_lt hfr) hx a w β S
  unfold Oper.wp
  rw [hr]
  rcases hc with ⟨rfl, S'⟩ | ⟨v, rfl, S'⟩
  · rw [Oper.upon_skip, hd]
    exact h st' hq ops _ R lo (i + 1) k h2 rest _ w' ⟨β', S'⟩ (G.put hfr) (fun st' a' w' _ => H st' a' w' (fun h => by cases h))
  · rw [Oper.upon_value, hd]
    exact h st' hq ops _ R lo (i + 1) k h2 rest _ w' ⟨β', S'⟩ (G.put hfr) (fun st' a' w' _ => H st' a' w' (fun h => by cases h))
theorem ax_app_off {gs : List Gd} {K : St → Prop} {d sz bytes e s len n' : Nat} {zs : List AM.K} {x y : XA} {v : AV} {rs rows more : List (List D)} {its : List XI} (hx : evA sl x = some (.osl e sz s len)) (he : get own e = some (.rows sz rs)) (hlen : s + len ≤ rs.length)
    (hy : evA sl y = some v) (hsrc : SrcOK C ⟨sl, own⟩ sz v rows) (hm : e < 1000 ∨ C.mv e = true) (hb : (2 * (len + rows.length) + 256) * bytes ≤ 2 ^ 48) (hn : len + rows.length = n') (hmore : (rs.drop s).take len ++ rows = more)
    (h : ∀ s' rs', s' + n' ≤ rs'.length → (rs'.drop s').take n' = more → AXI C false gs its ⟨(d, .osl e sz s' n') :: dropR e sl, (e, .rows sz rs') :: dropO e own⟩ K) : AXI C false gs (.op (some d) (.app sz bytes zs x y) :: its) ⟨sl, own⟩ K :=
  ax_eP (e_app_off hx he hlen hy hsrc hm hb) (fun st' ⟨s', rs', h1, h2, h3⟩ => by subst h1; subst hn; subst hmore; exact h s' rs' h2 h3)
end
end Go.AM

/- AM, part 34: names swapped. -/
namespace Go.AM
set_option linter.unusedSectionVars false
def swp (a b : Nat) (e : Nat) : Nat := bif Nat.beq e a then b else bif Nat.beq e b then a else e
theorem swp_swp (a b e : Nat) : swp a b (swp a b e) = e := by
  have hb : ∀ x y : Nat, Nat.beq x y = decide (x = y) := fun x y => by
    by_cases h : x = y
    · subst h; simp
    · rw [beq_ne h, decide_eq_false h]
  unfold swp
  simp only [hb]
  by_cases h1 : e = a
  · subst h1
    by_cases h2 : b = e
    · subst h2; simp
    · simp [h2]
  · by_cases h2 : e = b
    · subst h2; simp [h1]
    · simp [h1, h2]
theorem swp_lt {a b e : Nat} (ha : a < 1000) (hb : b < 1000) : 1000 ≤ e → swp a b e = e := fun h => by
  unfold swp
  rw [beq_ne (by omega), beq_ne (by omega)]; rfl
section
variable {X : Nat → Prop} {β : Names} {w : World} {τ : Nat → Nat} (ht : ∀ e, τ (τ e) = e)
include ht
theorem okf_swap {b : Nat} (h : okf X β b) : okf X (fun e => β (τ e)) b := ⟨h.1, fun e => h.2 (τ e)⟩
theorem DR_swap {x : D} {v : Value} (h : DR w (okf X β) x v) : DR w (okf X (fun e => β (τ e))) x v :=
  DR.mono ⟨Nat.le_refl _, fun _ _ _ => rfl, fun _ hb _ => okf_swap ht hb⟩ x v h
mutual
theorem AR_swap : ∀ (x : AV) (v : Value), AR X β w x v → AR X (fun e => β (τ e)) w (renA τ x) v
  | .d x, v, h => by rw [renA]; rw [AR] at h ⊢; exact DR_swap ht h
  | .zs _, v, h => by rw [renA]; rw [AR] at h ⊢; exact h
  | .ptr e o, v, h => by
    rw [renA]; rw [AR] at h ⊢
    obtain ⟨b, h1, h2⟩ := h
    exact ⟨b, by rw [ht]; exact h1, h2⟩
  | .rptr e sz i o, v, h => by
    rw [renA]; rw [AR] at h ⊢
    obtain ⟨b, h1, h2⟩ := h
    exact ⟨b, by rw [ht]; exact h1, h2⟩
  | .osl e sz s len, v, h => by
    rw [renA]; rw [AR] at h ⊢
    obtain ⟨a, cap, h1, h2, h3⟩ := h
    refine ⟨a, cap, h1, h2, h3.imp id ?_⟩
    rintro ⟨b, c, ty, fr, h4, h5⟩
    exact ⟨b, c, ty, fr, by rw [ht]; exact h4, h5⟩
  | .oslc e sz s len cap, v, h => by
    rw [renA]; rw [AR] at h ⊢
    obtain ⟨a, h1, h2, h3⟩ := h
    refine ⟨a, h1, h2, h3.imp id ?_⟩
    rintro ⟨b, c, ty, fr, h4, h5⟩
    exact ⟨b, c, ty, fr, by rw [ht]; exact h4, h5⟩
  | .agg cs, v, h => by
    rw [renA]; rw [AR] at h ⊢
    obtain ⟨vs, h1, h2⟩ := h
    exact ⟨vs, h1, AL_swap cs _ h2⟩
  | .tup cs, v, h => by
    rw [renA]; rw [AR] at h ⊢
    obtain ⟨vs, h1, h2⟩ := h
    exact ⟨vs, h1, AL_swap cs _ h2⟩
  | .fn f cs, v, h => by
    rw [renA]; rw [AR] at h ⊢
    obtain ⟨vs, h1, h2⟩ := h
    exact ⟨vs, h1, AL_swap cs _ h2⟩
  | .raw u, v, h => by rw [renA]; rw [AR] at h ⊢; exact h
  | .dead, v, h => by rw [renA, AR]; trivial
theorem AL_swap : ∀ (xs : List AV) (vs : List Value), AL X β w xs vs → AL X (fun e => β (τ e)) w (renL τ xs) vs
  | [], vs, h => by rw [renL]; rw [AL] at h ⊢; exact h
  | x :: xs, vs, h => by
    rw [renL]; rw [AL] at h ⊢
    obtain ⟨v, r, h1, h2, h3⟩ := h
    exact ⟨v, r, h1, AR_swap x v h2, AL_swap xs r h3⟩
end
theorem OBR_swap {ob : OB} {b : Option Nat} (h : OBR X β w ob b) : OBR X (fun e => β (τ e)) w (renO τ ob) b := by
  cases ob with
  | box cells =>
    cases b with
    | none => exact h.elim
    | some k =>
      obtain ⟨c, ty, fr, h1, h2, h3⟩ := h
      exact ⟨c, ty, fr, h1, h2, AL_swap ht _ _ h3⟩
  | rows sz rs =>
    cases b with
    | none => exact h
    | some k =>
      obtain ⟨c, ty, fr, h1, h2, h3, h4⟩ := h
      exact ⟨c, ty, fr, h1, h2, h3, h4.mono ⟨Nat.le_refl _, fun _ _ _ => rfl, fun _ hb _ => okf_swap ht hb⟩⟩
end
def renS (τ : Nat → Nat) : List (Nat × AV) → List (Nat × AV)
  | [] => []
  | (t, x) :: r => (t, renA τ x) :: renS τ r
theorem get_renS {τ : Nat → Nat} : ∀ (l : List (Nat × AV)) (t : Nat), get (renS τ l) t = (get l t).map (renA τ)
  | [], _ => rfl
  | (k, x) :: r, t => by
    rw [renS, get_cons, get_cons, get_renS r t]
    split <;> rfl
/-- Two names trade places. -/
theorem wk_swapM {C : Cx} {sl : List (Nat × AV)} {own : List (Nat × OB)} (a b : Nat) (ha : a < 1000 ∨ C.mv a = true) (hb : b < 1000 ∨ C.mv b = true) : Wk C ⟨sl, own⟩ ⟨renS (swp a b) sl, renOs (swp a b) own⟩ := by
  rintro ac w ⟨β, S⟩
  have ht := swp_swp a b
  refine ⟨fun e => β (swp a b e), { S with slots := ?_, hr := ?_, mine := ?_, stay := ?_ }⟩
  · intro t x hx
    rw [get_renS] at hx
    cases hg : get sl t with
    | none => rw [hg] at hx; cases hx
    | some y => rw [hg] at hx; cases hx; exact AR_swap ht y _ (S.slots t y hg)
  · refine ⟨fun e e' c h1 h2 => ?_, fun e c h => S.hr.lt _ c h, fun e c h => S.hr.notX _ c h, fun e ob h => ?_⟩
    · have := S.hr.inj _ _ c h1 h2
      rw [← ht e, this, ht]
    · obtain ⟨e0, ob0, h1, h2, h3, _⟩ := renOs_get h
      subst h2 h3
      have := S.hr.own e0 ob0 h1
      show OBR _ _ _ _ (β (swp a b (swp a b e0)))
      rw [ht]
      exact OBR_swap ht this
  · intro e c h
    exact S.mine _ c h
  · intro e h1 h2
    show β (swp a b e) = _
    have hea : e ≠ a := by rintro rfl; rcases ha with h | h; omega; rw [h] at h2; cases h2
    have heb : e ≠ b := by rintro rfl; rcases hb with h | h; omega; rw [h] at h2; cases h2
    have : swp a b e = e := by unfold swp; rw [beq_ne hea, beq_ne heb]; rfl
    rw [this]; exact S.stay e h1 h2
theorem wk_swap {C : Cx} {sl : List (Nat × AV)} {own : List (Nat × OB)} (a b : Nat) (ha : Nat.ble (a + 1) 1000 = true) (hb : Nat.ble (b + 1) 1000 = true) : Wk C ⟨sl, own⟩ ⟨renS (swp a b) sl, renOs (swp a b) own⟩ :=
  wk_swapM a b (.inl (Nat.le_of_ble_eq_true ha)) (.inl (Nat.le_of_ble_eq_true hb))
theorem q_idxN {C : Cx} {st : St} {x i : XA} {kd : IntKind} {n : Nat} {l : List UInt8} (hx : evA st.sl x = some (.d (.str l))) (hi : evA st.sl i = some (.d (.int kd (n : Int)))) (hr : n < l.length) :
    QStep C st (.idxS x i) (.d (.int .u8 (l[n].toNat : Int))) := q_idxS hx hi (by omega) (by simp [hr])
mutual
theorem nrA_pgb (e : Nat) : ∀ x, nrA e (pg (Nat.beq e) x) = true
  | .ptr k o => by rw [pg]; cases hb : Nat.beq e k <;> simp [nrA, hb]
  | .rptr k sz i o => by rw [pg]; cases hb : Nat.beq e k <;> simp [nrA, hb]
  | .osl k sz s len => by rw [pg]; cases hb : Nat.beq e k <;> simp [nrA, hb]
  | .oslc k sz s len cap => by rw [pg]; cases hb : Nat.beq e k <;> simp [nrA, hb]
  | .agg cs => by rw [pg, nrA]; exact nrL_pgb e cs
  | .tup cs => by rw [pg, nrA]; exact nrL_pgb e cs
  | .fn f cs => by rw [pg, nrA]; exact nrL_pgb e cs
  | .d x => by rw [pg]; rfl
  | .zs sz => by rw [pg]; rfl
  | .raw v => by rw [pg]; rfl
  | .dead => by rw [pg]; rfl
theorem nrL_pgb (e : Nat) : ∀ xs, nrL e (pgL (Nat.beq e) xs) = true
  | [] => by rw [pgL]; rfl
  | x :: xs => by rw [pgL, nrL, nrA_pgb e x, nrL_pgb e xs]; rfl
end
theorem nrOs_drop (e : Nat) : ∀ own, nrOs e (dropO e own) = true
  | [] => rfl
  | (k, ob) :: r => by
    rw [dropO, nrOs, nrOs_drop e r, Bool.and_true]
    cases h : nrO e ob with
    | true => exact h
    | false =>
      rw [cond_false]
      cases ob with
      | box cs => rw [pgO, nrO]; exact nrL_pgb e cs
      | rows sz rs => rfl
theorem locl_callm {C : Cx} {slm : List (Nat × AV)} {ownm : List (Nat × OB)} {P : Program} {mv mvc : Nat → Bool} {d f e : Nat} {args : List XA} {vs args0 : List AV} {r : AV} {h0 h' : List (Nat × OB)} (σ : Nat → Nat) (N0 : List Nat) (τ : Nat → Nat) (N1 : List Nat) (ha : evL slm args = some vs)
    (hcon : Con P mv f args0 h0 (fun r' h => r' = r ∧ h = h')) (hP : C.P = P) (hmv : C.mv = mvc)
    (c1 : domIn N0 h0 = true) (c2 : domIs h0 N0 = true) (c3 : allBig N0 = true) (c4 : distinct (N0.map σ) = true) (c5 : ownIs σ ownm h0) (c6 : refsInOs N0 h0 = true) (c7 : mvOK mv mvc σ N0 = true) (c8 : mvd mv σ N0 = [e])
    (hA : LB σ N0 [] vs args0)
    (r1 : refsIn (N0 ++ N1) r = true) (r2 : domIs h' (N0 ++ N1) = true) (r3 : AM.domIn (N0 ++ N1) h' = true) (r4 : refsInOs (N0 ++ N1) h' = true) (r5 : ∀ e ∈ N0, τ e = σ e) (r6 : distinct ((N0 ++ N1).map τ) = true)
    :
    LocL C (Nat.beq e) (nrA e) (N1.map τ) slm ownm (.call (some d) f args) d (renA τ r) (renOs τ h') := by
  intro sl own h1 h2 hf
  have hown : ∀ {h : List (Nat × OB)}, ownIs σ ownm h → ownIs σ own h := by
    intro h
    induction h with
    | nil => intro _; exact trivial
    | cons x r ih => intro hh; exact ⟨h2 _ _ hh.1, ih hh.2⟩
  refine ax_call (evL_mono h1 ha) (vcall_own hcon hP hmv false σ N0 ⟨c1, c2, c3, c4, hown c5, c6, c7, by rw [c8]; show (nrOs e (dropO e own) && true) = true; rw [nrOs_drop]; rfl⟩ hA ?_)
  rintro r' h ⟨rfl, rfl⟩
  refine ⟨τ, N1, ⟨r1, r2, r3, r4, r5, hf, r6, fun h => by cases h⟩, ?_⟩
  rw [c8]
  refine ax_nil ⟨.inr (get_cons_self _ _ _), fun t z ht hz hq => ?_, fun k ob hk => ?_, fun k ob hk hg => ?_⟩
  · show get ((d, _) :: dropR e sl) t = some z
    rw [get_cons_ne _ _ (fun h => ht h.symm)]; exact dropR_keep hz hq
  · show get (renOs τ h ++ dropO e own) k = some ob
    rw [get_append, hk]
  · show get (renOs τ h ++ dropO e own) k = some (pgO (Nat.beq e) ob)
    rw [get_append, hk, dropO_eq]; exact get_pgOs_some hg
end Go.AM

/- AM, part 35: regions that draw their order, with several operations that turn own blocks, one behind the other. -/
namespace Go.AM
abbrev HK := List (Nat × OB)
/-- What own blocks hold behind those that are done. -/
def curM : List (Nat × HK) → (Nat → Bool) → HK → HK
  | [], _, h => h
  | (k, hk) :: r, L, h => bif L k then curM r L hk else h
/-- Of the loud operation 'i': what is there ahead of it, and behind it. -/
def prevM : List (Nat × HK) → Nat → HK → Option (HK × HK)
  | [], _, _ => none
  | (k, hk) :: r, i, h => bif Nat.beq k i then some (h, hk) else prevM r i hk
def chainM (deps : List (List Nat)) : List (Nat × HK) → Bool
  | [] => true
  | [_] => true
  | (k, _) :: (k2, h2) :: r => depOf deps k2 k && Nat.ble (k + 1) k2 && chainM deps ((k2, h2) :: r)
theorem curM_quiet {i : Nat} {L : Nat → Bool} : ∀ {ks : List (Nat × HK)} {h : HK}, prevM ks i h = none → curM ks (fun j => Nat.beq i j || L j) h = curM ks L h
  | [], _, _ => rfl
  | (k, hk) :: r, h, hp => by
    rw [prevM] at hp
    cases hb : Nat.beq k i with
    | true => rw [hb, cond_true] at hp; cases hp
    | false =>
      rw [hb, cond_false] at hp
      have : Nat.beq i k = false := by
        cases hh : Nat.beq i k with
        | false => rfl
        | true => rw [Nat.eq_of_beq_eq_true hh] at hb; simp at hb
      rw [curM, curM, this, Bool.false_or, curM_quiet hp]
theorem prevM_lt {deps : List (List Nat)} : ∀ {ks : List (Nat × HK)} {k : Nat} {hk h : HK} {i : Nat} {p : HK × HK}, chainM deps ((k, hk) :: ks) = true → prevM ks i h = some p → k < i
  | (k2, h2) :: r, k, hk, h, i, p, hc, hp => by
    rw [chainM, Bool.and_eq_true, Bool.and_eq_true] at hc
    have := Nat.le_of_ble_eq_true hc.1.2
    rw [prevM] at hp
    cases hb : Nat.beq k2 i with
    | true => have := Nat.eq_of_beq_eq_true hb; omega
    | false =>
      rw [hb, cond_false] at hp
      have := prevM_lt hc.2 hp
      omega
theorem prevM_done {deps : List (List Nat)} {L : Nat → Bool} {i : Nat} (hdep : ∀ j, depOf deps i j = true → L j = true) (hcl : ∀ j m, L j = true → depOf deps j m = true → L m = true) :
    ∀ {ks : List (Nat × HK)} {k : Nat} {hk h : HK} {p : HK × HK}, chainM deps ((k, hk) :: ks) = true → prevM ks i h = some p → L k = true
  | (k2, h2) :: r, k, hk, h, p, hc, hp => by
    rw [chainM, Bool.and_eq_true, Bool.and_eq_true] at hc
    rw [prevM] at hp
    cases hb : Nat.beq k2 i with
    | true => have e := Nat.eq_of_beq_eq_true hb; subst e; exact hdep k hc.1.1
    | false =>
      rw [hb, cond_false] at hp
      exact hcl k2 k (prevM_done hdep hcl hc.2 hp) hc.1.1
theorem chainM_tail {deps : List (List Nat)} {x : Nat × HK} {ks : List (Nat × HK)} (h : chainM deps (x :: ks) = true) : chainM deps ks = true := by
  cases ks with
  | nil => rfl
  | cons y ks => obtain ⟨k, hk⟩ := x; obtain ⟨k2, h2⟩ := y; rw [chainM, Bool.and_eq_true] at h; exact h.2
theorem curM_at {deps : List (List Nat)} {L : Nat → Bool} {i : Nat} (hLi : L i = false) (hdep : ∀ j, depOf deps i j = true → L j = true) (hcl : ∀ j m, L j = true → depOf deps j m = true → L m = true) :
    ∀ {ks : List (Nat × HK)} {h hp hn : HK}, chainM deps ks = true → prevM ks i h = some (hp, hn) → curM ks L h = hp ∧ curM ks (fun j => Nat.beq i j || L j) h = hn
  | (k, hk) :: r, h, hp, hn, hc, hpv => by
    rw [prevM] at hpv
    cases hb : Nat.beq k i with
    | true =>
      have e := Nat.eq_of_beq_eq_true hb
      subst e
      rw [hb, cond_true] at hpv
      cases hpv
      refine ⟨by rw [curM, hLi]; rfl, ?_⟩
      rw [curM, show (Nat.beq k k || L k) = true from by simp, cond_true]
      cases r with
      | nil => rfl
      | cons y r =>
        obtain ⟨k2, h2⟩ := y
        rw [chainM, Bool.and_eq_true, Bool.and_eq_true] at hc
        have h3 := Nat.le_of_ble_eq_true hc.1.2
        have h4 : Nat.beq k k2 = false := by
          cases hh : Nat.beq k k2 with
          | false => rfl
          | true => have := Nat.eq_of_beq_eq_true hh; omega
        have h5 : L k2 = false := by
          cases hh : L k2 with
          | false => rfl
          | true => have := hcl k2 k hh hc.1.1; rw [hLi] at this; cases this
        rw [curM, h4, h5]; rfl
    | false =>
      rw [hb, cond_false] at hpv
      have hk1 := prevM_done hdep hcl hc hpv
      obtain ⟨a, b⟩ := curM_at hLi hdep hcl (chainM_tail hc) hpv
      refine ⟨by rw [curM, hk1, cond_true]; exact a, ?_⟩
      rw [curM, hk1, Bool.or_true, cond_true]; exact b
def domM (N : List Nat) (h : HK) : Bool := (h.map Prod.fst).all (fun n => memb n N)
theorem domM_none {N : List Nat} {h : HK} (hd : domM N h = true) {e : Nat} (he : e ∉ N) : get h e = none := by
  cases hg : get h e with
  | none => rfl
  | some o => exact absurd (memb_iff.1 (List.all_eq_true.1 hd e (get_mem_fst hg))) he
theorem curM_dom {N : List Nat} {L : Nat → Bool} : ∀ {ks : List (Nat × HK)} {h : HK}, ks.all (fun p => domM N p.2) = true → domM N h = true → domM N (curM ks L h) = true
  | [], h, _, hh => hh
  | (k, hk) :: r, h, ha, hh => by
    rw [List.all_cons, Bool.and_eq_true] at ha
    rw [curM]
    cases L k with
    | false => exact hh
    | true => exact curM_dom ha.2 ha.1
theorem curM_nr {n : Nat} {L : Nat → Bool} : ∀ {ks : List (Nat × HK)} {h : HK}, ks.all (fun p => nrOs n p.2) = true → nrOs n h = true → nrOs n (curM ks L h) = true
  | [], h, _, hh => hh
  | (k, hk) :: r, h, ha, hh => by
    rw [List.all_cons, Bool.and_eq_true] at ha
    rw [curM]
    cases L k with
    | false => exact hh
    | true => exact curM_nr ha.2 ha.1
def subM (hp hn : HK) : Bool := (hp.map Prod.fst).all (fun n => memb n (hn.map Prod.fst))
theorem subM_none {hp hn : HK} (h : subM hp hn = true) {e : Nat} (he : get hn e = none) : get hp e = none := by
  cases hg : get hp e with
  | none => rfl
  | some o =>
    have := memb_iff.1 (List.all_eq_true.1 h e (get_mem_fst hg))
    have key : ∀ (l : HK), e ∈ l.map Prod.fst → get l e ≠ none := by
      intro l
      induction l with
      | nil => intro h; cases h
      | cons y l ih =>
        intro h
        rw [get_cons]
        split
        · simp
        · rename_i hne
          rcases List.mem_cons.1 h with h | h
          · exact absurd h.symm hne
          · exact ih h
    exact absurd he (key hn this)
def StepM (C : Cx) (ks : List (Nat × HK)) (N : List Nat) (i : Nat) (slv : List (Nat × AV)) (ownv : List (Nat × OB)) (ts : List Nat) (x : XI) (dl : Dl) : Prop :=
  (∃ hp hn, prevM ks i [] = some (hp, hn) ∧ subM hp hn = true ∧ dl.h = [] ∧ LocL C (fun _ => false) (fun _ => true) [] slv (hp ++ ownv) x dl.d dl.r hn) ∨
  (prevM ks i [] = none ∧ (dl.h.map Prod.fst).all (fun n => !memb n N) = true ∧ ∃ slm, keepK ts slv = some slm ∧ Loc C slm (outO N ownv) x dl)
def AXM (C : Cx) (ks : List (Nat × HK)) (N : List Nat) (sl : List (Nat × AV)) (own : List (Nat × OB)) : Nat → List Dl → List XI → List (List Nat) → List (List Nat) → (List Dl → Prop) → Prop
  | _, racc, [], _, _, K => K racc.reverse
  | i, racc, x :: xs, ds :: dss, ts :: tss, K => ∃ dl, StepM C ks N i (pickSR ds i racc ++ sl) (pickHR ds i racc ++ own) ts x dl ∧ AXM C ks N sl own (i + 1) (dl :: racc) xs dss tss K
  | _, _, _, _, _, _ => False
theorem axm_out {C : Cx} {ks : List (Nat × HK)} {N : List Nat} {sl : List (Nat × AV)} {own : List (Nat × OB)} {K : List Dl → Prop} : ∀ {xs : List XI} {dss tss : List (List Nat)} {i : Nat} {racc : List Dl}, i = racc.length → AXM C ks N sl own i racc xs dss tss K →
    ∃ more, K (racc.reverse ++ more) ∧ more.length = xs.length ∧ ∀ j x, xs[j]? = some x → ∃ dl ds ts slv ownv, more[j]? = some dl ∧ dss[j]? = some ds ∧ StepM C ks N (i + j) slv ownv ts x dl ∧
      (∀ t y, get slv t = some y → (∃ m z, (racc.reverse ++ more)[m]? = some z ∧ membN m ds = true ∧ z.d = t ∧ z.r = y) ∨ get sl t = some y) ∧
      (∀ e ob, get ownv e = some ob → (∃ m z, (racc.reverse ++ more)[m]? = some z ∧ membN m ds = true ∧ get z.h e = some ob) ∨ get own e = some ob)
  | [], dss, tss, i, racc, _, h => ⟨[], by rw [List.append_nil]; simpa [AXM] using h, rfl, fun j x hx => by simp at hx⟩
  | y :: ys, ds :: dss, ts :: tss, i, racc, hi, h => by
    obtain ⟨dl, h1, h2⟩ := h
    obtain ⟨more, h3, h4, h5⟩ := axm_out (by simp [hi]) h2
    have e : (dl :: racc).reverse ++ more = racc.reverse ++ dl :: more := by simp
    rw [e] at h3 h5
    refine ⟨dl :: more, h3, by simp [h4], fun j x hx => ?_⟩
    have left : ∀ (m : Nat) (z : Dl), racc.reverse[m]? = some z → (racc.reverse ++ dl :: more)[m]? = some z := fun m z hm => by
      rw [List.getElem?_append_left]
      · exact hm
      · rcases Nat.lt_or_ge m racc.reverse.length with h | h
        · exact h
        · rw [List.getElem?_eq_none h] at hm; cases hm
    cases j with
    | zero =>
      simp only [List.getElem?_cons_zero, Option.some.injEq] at hx
      subst hx
      refine ⟨dl, ds, ts, _, _, rfl, rfl, h1, fun t y hy => ?_, fun e ob he => ?_⟩
      · rcases pickSR_of hi hy with ⟨m, z, h6, h7⟩ | h6
        · exact .inl ⟨m, z, left m z h6, h7⟩
        · exact .inr h6
      · rcases pickHR_of hi he with ⟨m, z, h6, h7⟩ | h6
        · exact .inl ⟨m, z, left m z h6, h7⟩
        · exact .inr h6
    | succ j =>
      obtain ⟨d', ds', ts', sv, ov, h6, h7, h8, h9, h10⟩ := h5 j x (by simpa using hx)
      rw [show i + 1 + j = i + (j + 1) from by omega] at h8
      exact ⟨d', ds', ts', sv, ov, by simpa using h6, by simpa using h7, h8, h9, h10⟩
  | _ :: _, [], _, _, _, _, h => h.elim
  | _ :: _, _ :: _, [], _, _, _, h => h.elim
def stM (ks : List (Nat × HK)) (sl : List (Nat × AV)) (own : List (Nat × OB)) (acc : List Dl) (L : Nat → Bool) : St := ⟨pickS L 0 acc ++ sl, curM ks L [] ++ (pickH L 0 acc ++ own)⟩
def accM (deps : List (List Nat)) (ks : List (Nat × HK)) (N : List Nat) (n : Nat) (sl : List (Nat × AV)) (own : List (Nat × OB)) (acc : List Dl) : Bool :=
  distinct (acc.map Dl.d) && frS (acc.map Dl.d) sl && distinct (allNs acc) && noneIn own (allNs acc) && nsOK sl own (allNs acc) && indepB deps acc 0 acc &&
    chainM deps ks && ks.all (fun p => domM N p.2) && ks.all (fun p => Nat.ble (p.1 + 1) n) && (allNs acc).all (fun n => ks.all (fun p => nrOs n p.2))
theorem curM_congr {L L' : Nat → Bool} {n : Nat} (hL : ∀ j, j < n → L j = L' j) : ∀ {ks : List (Nat × HK)} {h : HK}, ks.all (fun p => Nat.ble (p.1 + 1) n) = true → curM ks L h = curM ks L' h
  | [], _, _ => rfl
  | (k, hk) :: r, h, ha => by
    rw [List.all_cons, Bool.and_eq_true] at ha
    have := Nat.le_of_ble_eq_true ha.1
    rw [curM, curM, hL k this, curM_congr hL ha.2]
theorem cx_drawM {C : Cx} {Kn Kr : Kont} {Ke : List (Nat × Kont)} {deps : List (List Nat)} {hd tl : List XI} {sl : List (Nat × AV)} {own : List (Nat × OB)} (ks : List (Nat × HK)) (N : List Nat) (tss : List (List Nat))
    (h : AXM C ks N sl own 0 [] hd deps tss (fun acc => accM deps ks N hd.length sl own acc = true ∧ AXI C false [] tl (stM ks sl own acc (fun _ => true)) Kn)) : AX C (.drawE deps hd tl) ⟨sl, own⟩ Kn Ke Kr := by
  obtain ⟨acc, ⟨g1, gt⟩, g3, g4⟩ := axm_out (racc := []) (i := 0) rfl h
  simp only [List.reverse_nil, List.nil_append, Nat.zero_add] at g1 gt g4
  unfold accM at g1
  simp only [Bool.and_eq_true] at g1
  obtain ⟨⟨⟨⟨⟨⟨⟨⟨⟨a1, a2⟩, a3⟩, a4⟩, a5⟩, a6⟩, b1⟩, b2⟩, b3⟩, b4⟩ := g1
  refine cx_drawG (stM ks sl own acc) (fun L L' hLL => ?_) ?_ ?_ gt
  · unfold stM
    rw [curM_congr hLL b3, pickS_congr (i := 0) (L := L) (L' := L') (fun j hj => by rw [Nat.zero_add]; exact hLL j (by omega)), pickH_congr (i := 0) (L := L) (L' := L') (fun j hj => by rw [Nat.zero_add]; exact hLL j (by omega))]
  · have : stM ks sl own acc (fun _ => false) = ⟨sl, own⟩ := by
      unfold stM; rw [pickS_none, pickH_none]
      cases ks <;> rfl
    rw [this]; exact fun _ _ S => S
  · intro i x hx L hLi hdep hcl
    obtain ⟨dl, ds, ts, slv, ownv, hdl, hds, hstep, hv1, hv2⟩ := g4 i x hx
    have hmd : ∀ m, membN m ds = depOf deps i m := fun m => by unfold depOf; rw [hds]
    have hvS : ∀ t y, get slv t = some y → get (pickS L 0 acc ++ sl) t = some y := fun t y hy => pickS_mk a1 a2 (by
      rcases hv1 t y hy with ⟨j, z, q1, q2, q3, q4⟩ | q0
      · rw [hmd] at q2
        exact .inl ⟨j, z, q1, by rw [Nat.zero_add]; exact hdep j q2, q3, q4⟩
      · exact .inr q0)
    have hvO : ∀ e ob, get ownv e = some ob → get (pickH L 0 acc ++ own) e = some ob := fun e ob he => pickH_mk a3 a4 (by
      rcases hv2 e ob he with ⟨j, z, q1, q2, q3⟩ | q0
      · rw [hmd] at q2
        exact .inl ⟨j, z, q1, by rw [Nat.zero_add]; exact hdep j q2, q3⟩
      · exact .inr q0)
    let L' : Nat → Bool := fun j => Nat.beq i j || L j
    have hL'o : ∀ j, L' j = true → j ≠ i → L j = true := fun j hj hne => by
      have : (Nat.beq i j || L j) = true := hj
      rw [beq_ne (fun h => hne h.symm), Bool.false_or] at this; exact this
    have hS : ∀ t y, get (pickS L' 0 acc ++ sl) t = some y → (t = dl.d ∧ y = dl.r) ∨ (t ≠ dl.d ∧ get (pickS L 0 acc ++ sl) t = some y) := by
      intro t y hy
      rcases pickS_of hy with ⟨j, z, q1, q2, q3, q4⟩ | q0
      · rw [Nat.zero_add] at q2
        by_cases hij : j = i
        · subst hij; rw [hdl] at q1; cases q1; exact .inl ⟨q3.symm, q4.symm⟩
        · refine .inr ⟨fun he => ds_ne a1 hdl q1 (fun h => hij h.symm) (by rw [q3, he]), pickS_mk a1 a2 (.inl ⟨j, z, q1, by rw [Nat.zero_add]; exact hL'o j q2 hij, q3, q4⟩)⟩
      · refine .inr ⟨fun he => ?_, pickS_mk a1 a2 (.inr q0)⟩
        subst he
        rw [frS_mem a2 dl.d (List.mem_map_of_mem (List.mem_of_getElem? hdl))] at q0; cases q0
    have hO : ∀ e ob, get (pickH L' 0 acc ++ own) e = some ob → get dl.h e = some ob ∨ (get dl.h e = none ∧ get (pickH L 0 acc ++ own) e = some ob) := by
      intro e ob he
      rcases pickH_of he with ⟨j, z, q1, q2, q3⟩ | q1
      · rw [Nat.zero_add] at q2
        by_cases hij : j = i
        · subst hij; rw [hdl] at q1; cases q1; exact .inl q3
        · refine .inr ⟨?_, pickH_mk a3 a4 (.inl ⟨j, z, q1, by rw [Nat.zero_add]; exact hL'o j q2 hij, q3⟩)⟩
          cases hg : get dl.h e with
          | none => rfl
          | some o => exact absurd (get_mem_fst q3) (ns_ne a3 hdl q1 (fun h => hij h.symm) e (get_mem_fst hg))
      · refine .inr ⟨?_, pickH_mk a3 a4 (.inr q1)⟩
        cases hg : get dl.h e with
        | none => rfl
        | some o =>
          have := noneIn_mem a4 ((ns_distinct a3 hdl).2 e (get_mem_fst hg))
          rw [this] at q1; cases q1
    show AXI C false [] [x] (stM ks sl own acc L) (fun st' => Wk C st' (stM ks sl own acc L'))
    rcases hstep with ⟨hp, hn, s1, s2, sh, s3⟩ | ⟨s1, s2, slm, s3, s5⟩
    · obtain ⟨c1, c2⟩ := curM_at hLi hdep hcl b1 s1
      have e1 : stM ks sl own acc L = ⟨pickS L 0 acc ++ sl, hp ++ (pickH L 0 acc ++ own)⟩ := by unfold stM; rw [c1]
      have e2 : stM ks sl own acc L' = ⟨pickS L' 0 acc ++ sl, hn ++ (pickH L' 0 acc ++ own)⟩ := by unfold stM; rw [c2]
      rw [e1, e2]
      refine (s3 _ _ hvS (fun e ob he => ?_) rfl).mono ?_
      · rcases get_app _ _ _ _ he with h1 | ⟨h1, h2⟩
        · rw [get_append, h1]
        · rw [get_append, h1]; exact hvO e ob h2
      rintro st' ⟨u1, u2, u3, u4⟩
      refine wk_le2 (fun t y hy => ?_) (fun e ob he => ?_)
      · rcases hS t y hy with ⟨rfl, rfl⟩ | ⟨h3, h4⟩
        · exact u1
        · exact .inr (u2 t y h3 h4 rfl)
      · rcases get_app _ _ _ _ he with h1 | ⟨h1, h2⟩
        · exact u3 e ob h1
        · rcases hO e ob h2 with h4 | ⟨_, h4⟩
          · rw [sh] at h4; simp [get] at h4
          · have := u4 e ob h1 (by rw [get_append, subM_none s2 h1]; exact h4)
            rwa [pgO_id _ (fun _ => rfl)] at this
    · have e1 : stM ks sl own acc L = ⟨pickS L 0 acc ++ sl, curM ks L [] ++ (pickH L 0 acc ++ own)⟩ := rfl
      have e2 : stM ks sl own acc L' = ⟨pickS L' 0 acc ++ sl, curM ks L [] ++ (pickH L' 0 acc ++ own)⟩ := by unfold stM; rw [curM_quiet s1]
      rw [e1, e2]
      have hdm : domM N (curM ks L []) = true := curM_dom b2 rfl
      have hfresh : ∀ n ∈ dl.h.map Prod.fst, n < 1000 ∧ nrS n (pickS L 0 acc ++ sl) = true ∧ nrOs n (curM ks L [] ++ (pickH L 0 acc ++ own)) = true := by
        intro n hm
        have hmem := (ns_distinct a3 hdl).2 n hm
        obtain ⟨c1, c2, c3⟩ := nsOK_spec a5 hmem
        have hi : indepI deps i (dl.h.map Prod.fst) 0 acc = true := by
          have := indepB_spec (i := 0) a6 hdl
          rwa [Nat.zero_add] at this
        have hind : ∀ j y, acc[j]? = some y → L j = true → nrA n y.r = true ∧ nrOs n y.h = true := fun j y hy hL => by
          have := indepI_spec (j := 0) (k := j) hi hy (by rw [Nat.zero_add]; rintro rfl; rw [hLi] at hL; cases hL) (by
            rw [Nat.zero_add]
            cases hh : depOf deps j i with
            | false => rfl
            | true => have := hcl j i hL hh; rw [hLi] at this; cases this) n hm
          exact this
        refine ⟨c1, ?_, ?_⟩
        · rw [nrS_append, c2, Bool.and_true]
          exact nrS_pick fun j y hy hL => (hind j y hy (by rw [Nat.zero_add] at hL; exact hL)).1
        · rw [nrOs_append, nrOs_append, c3, Bool.and_true, Bool.and_eq_true]
          refine ⟨curM_nr (List.all_eq_true.1 b4 n hmem) rfl, nrOs_pick fun j y hy hL => (hind j y hy (by rw [Nat.zero_add] at hL; exact hL)).2⟩
      refine (s5 _ _ (fun t y hy => hvS t y (keepK_get s3 t y hy)) (fun e ob he => ?_) (freeN_mk (ns_distinct a3 hdl).1 hfresh)).mono ?_
      · obtain ⟨hb, he⟩ := outO_get he
        rw [get_append, domM_none hdm hb]; exact hvO e ob he
      rintro st' ⟨u1, u2⟩
      refine wk_le2 (fun t y hy => .inr (u1 t y ?_)) (fun e ob he => u2 e ob ?_)
      · rcases hS t y hy with ⟨rfl, rfl⟩ | ⟨h3, h4⟩
        · exact get_cons_self _ _ _
        · rw [get_cons_ne _ _ (fun h => h3 h.symm)]; exact h4
      · have hno : ∀ e ob, get dl.h e = some ob → get (curM ks L []) e = none := fun e ob he => by
          refine domM_none hdm (fun hm => ?_)
          have := List.all_eq_true.1 s2 e (get_mem_fst he)
          rw [memb_iff.2 hm] at this; cases this
        rcases get_app _ _ _ _ he with h1 | ⟨h1, h2⟩
        · have : get dl.h e = none := by
            cases hg : get dl.h e with
            | none => rfl
            | some o => rw [hno e o hg] at h1; cases h1
          rw [get_append, this]
          show get (curM ks L [] ++ _) e = some ob
          rw [get_append, h1]
        · rcases hO e ob h2 with h4 | ⟨h4, h5⟩
          · rw [get_append, h4]
          · rw [get_append, h4]
            show get (curM ks L [] ++ _) e = some ob
            rw [get_append, h1]; exact h5
end Go.AM

/- AM, part 36: 'and' and 'or' whose right side turns own blocks. -/
namespace Go.AM
section
variable {C : Cx} {q : Bool} {gs : List Gd} {K : St → Prop}
theorem ax_andorE {d j c : Nat} {b t : Bool} {grp : List XI} {s : XA} {its : List XI} {sl : List (Nat × AV)} {own : List (Nat × OB)}
    (hc : get sl c = some (.d (.bool t))) (hfr : frS (dstsL grp) sl = true)
    (hgrp : t = b → AXI C q (⟨j, b, c⟩ :: gs) grp ⟨sl, own⟩ (fun st' => ∃ (y : Bool) (own' : List (Nat × OB)), evA st'.sl s = some (.d (.bool y)) ∧ St.le ⟨sl, own'⟩ st' ∧ AXI C q gs its ⟨(d, .d (.bool y)) :: sl, own'⟩ K))
    (h : t = !b → AXI C q gs its ⟨(d, .d (.bool t)) :: sl, own⟩ K) :
    AXI C q gs (.andor d b j c grp s :: its) ⟨sl, own⟩ K := by
  intro ops W R lo i k hf rest a w S G H
  obtain ⟨m, h1, h2, h3, h4⟩ := fitIs_cons hf
  obtain ⟨g1, g2, g3, g4, k', o, p, x, z, g5, g6, ho, hop, hg, hd, hdf, g7, g8, rfl⟩ := andor_fit h1
  rw [range_split (by omega) h4, range_split (by omega : i ≤ k') (by omega), range_one, List.append_assoc, List.append_assoc]
  have hct : a.tmps[c]? = some (.bool t) := by
    obtain ⟨β, S⟩ := S
    have := S.slots c _ hc
    rw [AR, DR] at this
    exact getD_eq this (by simp [undef])
  by_cases htb : t = b
  · subst htb
    have G' : GdS ops (⟨j, t, c⟩ :: gs) a := by
      intro g hgm
      rcases List.mem_cons.1 hgm with rfl | hgm
      · exact ⟨g4, hct⟩
      · exact G g hgm
    refine hgrp rfl ops W R i i k' g5 _ a w S G' (fun st' a' w' hw0 hK S' G2 => ?_)
    rw [List.singleton_append]
    obtain ⟨y, own', hy, hle, h⟩ := hK
    obtain ⟨β, S'⟩ := S'
    have hp : a'.eval p = .bool t := by
      have hct' := (G2 _ List.mem_cons_self).2
      simp only at hct'
      unfold fitA at g7
      split at g7
      · rename_i u v e; cases e
        have := Nat.eq_of_beq_eq_true g7
        subst this
        simp [Act.eval, Array.getD_eq_getD_getElem?, hct']
      · rename_i e; cases e
      · rename_i e; cases e
      · rename_i e; cases e
      · cases g7
    have key : AR C.X β w' (.d (.bool y)) (if t then a'.eval x else a'.eval z) := by
      cases t
      · simp only [cond_false, Bool.and_eq_true] at g8
        have := AR_of_fitA S' g8.2 hy
        simpa using this
      · simp only [cond_true, Bool.and_eq_true] at g8
        have := AR_of_fitA S' g8.1 hy
        simpa using this
    have hrun : ∀ w'', Ext w' w'' → (execOp a'.eval o).run C.P w'' = .ok (.value (if t then a'.eval x else a'.eval z)) w'' := fun w'' _ => by
      simp only [execOp, hop, hp, asBool, Sem.run_bind, Sem.run_pure, Result.andThen_ok]
    refine R.val k' _ a' w' o _ ho (wanted_of hg (fun g hgm => G2 g (List.mem_cons_of_mem _ hgm))) hrun ?_
    rw [hd]
    have S2 : SatB C ⟨sl, own'⟩ a' w' β := S'.le (leL_get hle.1) (leL_get hle.2)
    exact h ops W R lo (k' + 1) k h2 rest _ w' ⟨β, S2.put (dstFree_lt hdf d rfl) key⟩ (GdS.put (fun g hgm => G2 g (List.mem_cons_of_mem _ hgm)) hdf)
      (fun st' a' w'' hw1 => H st' a' w'' (fun hq => (hw1 hq).trans (hw0 hq)))
  · obtain ⟨β, S⟩ := S
    refine skipL grp ⟨j, b, c⟩ gs i i k' g5 W R.skip _ a w S.tsize ⟨g4, by rw [hct]; simp [htb]⟩ (fun q h1 h2 => by omega) (fun a' s' U' => ?_)
    rw [List.singleton_append]
    have hmem : ∀ t' x', get sl t' = some x' → t' ∉ dstsL grp := fun t' x' hx hm => by
      rw [frS_mem hfr t' hm] at hx; cases hx
    have same : ∀ t' x', get sl t' = some x' → a'.tmps[t']? = a.tmps[t']? := fun t' x' hx => by
      rcases s'.slot t' with h5 | ⟨h5, _⟩
      · exact h5
      · exact absurd h5 (hmem t' x' hx)
    have G2 : GdS ops gs a' := by
      intro g hgm
      obtain ⟨q1, q2⟩ := G g hgm
      refine ⟨q1, ?_⟩
      rcases s'.slot g.c with h5 | ⟨h5, h6⟩
      · rw [h5]; exact q2
      · -- the group writes no guard's slot
        exfalso
        exact grp_free grp (⟨j, b, c⟩ :: gs) i i k' g5 g (List.mem_cons_of_mem _ hgm) h5
    have hct' : a'.tmps[c]? = some (.bool t) := (same c _ hc).trans hct
    have hp : a'.eval p = .bool t := by
      unfold fitA at g7
      split at g7
      · rename_i u v e; cases e
        have := Nat.eq_of_beq_eq_true g7
        subst this
        simp [Act.eval, Array.getD_eq_getD_getElem?, hct']
      · rename_i e; cases e
      · rename_i e; cases e
      · rename_i e; cases e
      · cases g7
    have S2 : SatB C ⟨sl, own⟩ a' w β := {
      tsize := s'.size.trans S.tsize
      df := s'.df.trans S.df
      slots := fun t' x' hx => by
        rw [Array.getD_eq_getD_getElem?, same t' x' hx, ← Array.getD_eq_getD_getElem?]
        exact S.slots t' x' hx
      hr := S.hr
      mine := S.mine
      stay := S.stay
      fr := S.fr
      xlt := S.xlt }
    have key : (if t then a'.eval x else a'.eval z) = .bool t := by
      have htn : t = !b := by cases t <;> cases b <;> simp_all
      cases b
      · simp only [cond_false, Bool.and_eq_true] at g8
        have := AR_of_fitA S2 g8.1 (v := .d (.bool true)) rfl
        rw [AR, DR] at this
        simp [htn, this]
      · simp only [cond_true, Bool.and_eq_true] at g8
        have := AR_of_fitA S2 g8.2 (v := .d (.bool false)) rfl
        rw [AR, DR] at this
        simp [htn, this]
    have hrun : ∀ w'', Ext w w'' → (execOp a'.eval o).run C.P w'' = .ok (.value (.bool t)) w'' := fun w'' _ => by
      simp only [execOp, hop, hp, asBool, Sem.run_bind, Sem.run_pure, Result.andThen_ok, key]
    refine R.val k' _ a' w o _ ho (wanted_of hg G2) hrun ?_
    rw [hd]
    have hvr : AR C.X β w (.d (.bool t)) (.bool t) := by
      rw [AR, DR]
    exact h (by cases t <;> cases b <;> simp_all) ops W R lo (k' + 1) k h2 rest _ w ⟨β, S2.put (dstFree_lt hdf d rfl) hvr⟩ (G2.put hdf) H
theorem ax_orE {d j c : Nat} {t : Bool} {grp : List XI} {s : XA} {its : List XI} {sl : List (Nat × AV)} {own : List (Nat × OB)}
    (hc : get sl c = some (.d (.bool t))) (hfr : frS (dstsL grp) sl = true)
    (h : t = true → AXI C q gs its ⟨(d, .d (.bool true)) :: sl, own⟩ K)
    (hgrp : t = false → AXI C q (⟨j, false, c⟩ :: gs) grp ⟨sl, own⟩ (fun st' => ∃ (y : Bool) (own' : List (Nat × OB)), evA st'.sl s = some (.d (.bool y)) ∧ St.le ⟨sl, own'⟩ st' ∧ AXI C q gs its ⟨(d, .d (.bool y)) :: sl, own'⟩ K)) :
    AXI C q gs (.andor d false j c grp s :: its) ⟨sl, own⟩ K := ax_andorE hc hfr hgrp (fun e => by subst e; exact h rfl)
theorem ax_andE {d j c : Nat} {t : Bool} {grp : List XI} {s : XA} {its : List XI} {sl : List (Nat × AV)} {own : List (Nat × OB)}
    (hc : get sl c = some (.d (.bool t))) (hfr : frS (dstsL grp) sl = true)
    (h : t = false → AXI C q gs its ⟨(d, .d (.bool false)) :: sl, own⟩ K)
    (hgrp : t = true → AXI C q (⟨j, true, c⟩ :: gs) grp ⟨sl, own⟩ (fun st' => ∃ (y : Bool) (own' : List (Nat × OB)), evA st'.sl s = some (.d (.bool y)) ∧ St.le ⟨sl, own'⟩ st' ∧ AXI C q gs its ⟨(d, .d (.bool y)) :: sl, own'⟩ K)) :
    AXI C q gs (.andor d true j c grp s :: its) ⟨sl, own⟩ K := ax_andorE hc hfr hgrp (fun e => by subst e; exact h rfl)
end
end Go.AM

/- AM, part 37: own slices with a known capacity: in place, and anew. -/
namespace Go.AM
section
variable {C : Cx} {sl : List (Nat × AV)} {own : List (Nat × OB)}
/-- The capacity is looked at. -/
theorem cx_cap {x : XCode} {Kn Kr : Kont} {Ke : List (Nat × Kont)} (t : Nat) {e sz s len : Nat} (hx : get sl t = some (.osl e sz s len))
    (h : ∀ c, len ≤ c → AX C x ⟨(t, .oslc e sz s len c) :: sl, own⟩ Kn Ke Kr) : AX C x ⟨sl, own⟩ Kn Ke Kr := by
  intro c hf a w S
  obtain ⟨β, S⟩ := S
  have h1 := S.slots t _ hx
  rw [AR] at h1
  obtain ⟨ad, cap, h2, h3, h4⟩ := h1
  refine h cap h3 c hf a w ⟨β, { S with slots := fun k y hy => ?_ }⟩
  rw [get_cons] at hy
  split at hy
  · rename_i hk; subst hk; cases hy; rw [AR]; exact ⟨ad, h2, h3, h4⟩
  · exact S.slots k y hy
/-- .. and forgotten. -/
theorem wk_uncap (t : Nat) {e sz s len c : Nat} (hx : get sl t = some (.oslc e sz s len c)) : Wk C ⟨sl, own⟩ ⟨(t, .osl e sz s len) :: sl, own⟩ := by
  rintro a w ⟨β, S⟩
  refine ⟨β, { S with slots := fun k y hy => ?_ }⟩
  rw [get_cons] at hy
  split at hy
  · rename_i hk
    have h1 := S.slots t _ hx
    rw [AR] at h1
    obtain ⟨ad, h2, h3, h4⟩ := h1
    subst hk
    cases hy
    rw [AR]
    exact ⟨ad, c, h2, h3, h4⟩
  · exact S.slots k y hy
theorem q_capC {st : St} {x : XA} {e sz s len c : Nat} (hx : evA st.sl x = some (.oslc e sz s len c)) : QStep C st (.capS x) (.d (.int .i64 c)) := by
  intro o hf a w β S
  simp only [fits] at hf
  split at hf
  · rename_i args ts hop
    split at hf
    · rename_i y t g1 g2
      simp only [Bool.and_eq_true] at hf
      have h5 := AR_of_fitA S hf.2 hx
      rw [AR] at h5
      obtain ⟨ad, h6, _⟩ := h5
      rw [list1 g1, list1 g2] at hop
      cases he : sliceOf C.P t with
      | none => rw [he] at hf; simp at hf
      | some e =>
        exact ⟨_, by rw [AR, DR], fun w' _ => by simp [execOp, hop, resolve, invoke, builtin, Builtin.cap_, h6, run_underlying (sliceOf_some he), goInt]⟩
    · cases hf
  · cases hf
theorem q_lenC {st : St} {x : XA} {e sz s len c : Nat} (hx : evA st.sl x = some (.oslc e sz s len c)) : QStep C st (.lenS x) (.d (.int .i64 len)) := by
  intro op hf ac w β S
  obtain ⟨y, t, e, ho, hu, hy⟩ := lenS_fit hf
  have h2 := AR_of_fitA S hy hx
  rw [AR] at h2
  obtain ⟨a, h2, _⟩ := h2
  exact ⟨_, by rw [AR, DR], fun w' _ => len_run ho hu h2 w'⟩
/-- A slice of a slice, up to the capacity. -/
theorem q_slcC {st : St} {sz : Nat} {x : XA} {lo hi : Option XA} {e s len c : Nat} {a b : Int} (hx : evA st.sl x = some (.oslc e sz s len c)) (ha : bnd st.sl lo 0 = some a) (hb : bnd st.sl hi len = some b)
    (h0 : 0 ≤ a) (h1 : a ≤ b) (h2 : b ≤ c) : QStep C st (.slc sz x lo hi none) (.oslc e sz (s + a.toNat) (b.toNat - a.toNat) (c - a.toNat)) := by
  intro op hf ac w β S
  obtain ⟨t, y, l, h, el, ho, hu, hz, hy, hl, hh⟩ := slc_fit hf
  have h4 := AR_of_fitA S hy hx
  rw [AR] at h4
  obtain ⟨ad, h4, h5, h6⟩ := h4
  refine ⟨.slice (if c = a.toNat then ad else ad.map (·.add (a.toNat * sz))) (b.toNat - a.toNat) (c - a.toNat), ?_, fun w' _ => ?_⟩
  · rw [AR]
    refine ⟨_, rfl, by omega, ?_⟩
    by_cases hc : c - a.toNat = 0
    · exact .inl hc
    · right
      rcases h6 with h6 | ⟨bb, cc, ty, fr, h7, rfl, h8, h9⟩
      · omega
      rw [if_neg (by omega)]
      exact ⟨bb, cc, ty, fr, h7, by simp [add_spot, Nat.add_mul], h8, by rw [show s + a.toNat + (c - a.toNat) = s + c from by omega]; exact h9⟩
  · have hbr := bounds_run (P := C.P) (isS := true) (len := len) (cap := c) S hl hh ha hb h0 h1 (by simpa using h2) w'
    simp only [execOp, ho, Instr.sliceAt, Sem.run_bind, run_underlying hu, Result.andThen_ok, Instr.slice, h4, Option.map_none, hbr, szIs_some hz, Sem.run_pure]
/-- append within the capacity: in place. -/
theorem e_app_in {d sz bytes e len cap : Nat} {zs : List AM.K} {x y : XA} {v : AV} {rs rows : List (List D)} (hx : evA sl x = some (.oslc e sz 0 len cap)) (he : get own e = some (.rows sz rs)) (hlen : len ≤ rs.length)
    (hy : evA sl y = some v) (hsrc : SrcOK C ⟨sl, own⟩ sz v rows) (hroom : len + rows.length ≤ cap) :
    EStep C ⟨sl, own⟩ (some d) (.app sz bytes zs x y) ⟨(d, .oslc e sz 0 (len + rows.length) cap) :: sl, (e, .rows sz (rs.take len ++ rows ++ rs.drop (len + rows.length))) :: own⟩ := by
  intro o ho hd hf a w β S
  have hd := hd _ rfl
  obtain ⟨p, q, t, u, el, d2, hop, ht, hz, hby, hzero, hsz1, hb1, hu, hd2, hp, hq⟩ := app_fit hf
  have h1 := AR_of_fitA S hp hx
  have h2 := AR_of_fitA S hq hy
  obtain ⟨hn, vs, hvl, hvr, hfc, hones⟩ := hsrc a w β _ S h2
  rw [AR] at h1
  obtain ⟨base, h3, h4, h5⟩ := h1
  have hres : ∀ (r : Value) (w' : World), (Builtin.append_ #[t, u] o.type #[a.eval p, a.eval q]).run C.P w = .ok r w' → (execOp a.eval o).run C.P w = .ok (.value r) w' := by
    intro r w' hr
    simp only [execOp, hop, resolve, List.map_toArray, List.map_cons, List.map_nil, Sem.run_bind, Sem.run_pure, Result.andThen_ok, invoke, builtin, hr]
  rw [h3] at hres
  have hfm : (Builtin.firstCells sz rows.length (a.eval q)).run C.P w = .ok vs.toArray w := by
    have := hfc w (Ext.refl w) rows.length (Nat.le_refl _); rw [← hvl, List.take_length] at this; exact this
  rcases h5 with h5 | ⟨b, c, ty, fr, h6, h7, h8, h9⟩
  · have hr0 : rows.length = 0 := by omega
    have hl0 : len = 0 := by omega
    have hrn : rows = [] := List.eq_nil_of_length_eq_zero hr0
    have hvn : vs = [] := List.eq_nil_of_length_eq_zero (by rw [hvl, hr0]; simp)
    have hrun := append_fits (sLen := len) (sCap := cap) (base := base) ht hz hu hd2 (hn w) hfm hroom (w' := w) (by
      subst hvn
      cases base with
      | none => rfl
      | some ad => rfl) o.type
    refine ⟨_, w, β, hres _ _ hrun, .inr ⟨_, rfl, ?_⟩⟩
    have S1 : SatB C ⟨sl, (e, .rows sz (rs.take len ++ rows ++ rs.drop (len + rows.length))) :: own⟩ a w β := by
      have e1 : rs.take len ++ rows ++ rs.drop (len + rows.length) = rs := by rw [hrn, hl0]; simp
      rw [e1]
      exact S.le (fun k x hx => hx) (fun k ob hk => by
        rw [get_cons] at hk
        split at hk
        · rename_i hke; subst hke; cases hk; exact he
        · exact hk)
    exact S1.put hd (by rw [AR]; exact ⟨base, rfl, hroom, .inl h5⟩)
  · subst h7
    have hob0 := S.hr.own e _ he
    rw [h6] at hob0
    obtain ⟨c0, ty0, fr0, q1, q2, q3, q4⟩ := hob0
    rw [h8] at q1; cases q1
    have hcap : cap * sz ≤ c.size := by simpa using h9
    have hm1 : (len + rows.length) * sz ≤ c.size := Nat.le_trans (Nat.mul_le_mul_right _ hroom) hcap
    have hm1' := hm1
    rw [Nat.add_mul] at hm1
    have hst := storeCells_run (P := C.P) (o := len * sz) (vs := vs) h8 q2.1 (by rw [hvl]; exact hm1) hones
    obtain ⟨w1, w2, w3, w4, w5, w6⟩ := setCells_world b vs (len * sz) w
    have hrun := append_fits (sLen := len) (sCap := cap) (base := some ⟨b, 0 * sz, none⟩) ht hz hu hd2 (hn w) hfm hroom
      (w' := w.setCells b (len * sz) vs) (by simp only [Nat.zero_mul, add_spot, Nat.zero_add]; exact hst) o.type
    refine ⟨_, _, β, hres _ _ hrun, .inr ⟨_, rfl, ?_⟩⟩
    have hcc : ∀ c' ty' fr', w.heap[b]? = some (.cells c' ty' fr') → ∃ c'' ty'' fr'', (w.setCells b (len * sz) vs).heap[b]? = some (.cells c'' ty'' fr'') ∧ c''.size = c'.size := fun c' ty' fr' h =>
      ⟨_, _, _, w6 c' ty' fr' h, by simp [setL_length]⟩
    have T := Tr.store (X := C.X) h6 w4 w5 hcc
    have hlc : (c.toList.take (len * sz)).length = len * sz := by simp; omega
    have hset : setL c.toList (len * sz) vs = c.toList.take (len * sz) ++ vs ++ c.toList.drop ((len + rows.length) * sz) := by
      have := setL_append (c.toList.take (len * sz)) (c.toList.drop (len * sz)) vs (by simp; omega)
      rw [List.take_append_drop, hlc, List.drop_drop, hvl, ← Nat.add_mul] at this
      exact this
    have q4' : RowsR C.X β w sz rs c.toList.toArray := by simpa using q4
    have hRR : RowsR C.X β w sz (rs.take len ++ rows ++ rs.drop (len + rows.length)) (c.toList.take (len * sz) ++ vs ++ c.toList.drop ((len + rows.length) * sz)).toArray := by
      have r1 : RowsR C.X β w sz (rs.take len) (c.toList.take (len * sz)).toArray := RowsR_take q4 len
      have r3 := RowsR_drop q4' (len + rows.length)
      have e2 : (c.toList.take (len * sz)).length = (rs.take len).length * sz := by rw [hlc, List.length_take, Nat.min_eq_left hlen]
      have e3 : (c.toList.take (len * sz) ++ vs).length = (rs.take len ++ rows).length * sz := by
        rw [List.length_append, List.length_append, hlc, hvl, List.length_take, Nat.min_eq_left hlen, Nat.add_mul]
      exact RowsR_split (RowsR_split r1 e2 hvr) e3 r3
    have hob : OBR C.X β (w.setCells b (len * sz) vs) (.rows sz (rs.take len ++ rows ++ rs.drop (len + rows.length))) (some b) := by
      refine ⟨_, ty, fr, w6 c ty fr h8, by simpa [setL_length] using q2, ?_, ?_⟩
      · have : (rs.take len ++ rows ++ rs.drop (len + rows.length)).length * sz ≤ c.size := by
          rcases Nat.le_total (len + rows.length) rs.length with hq | hq
          · have e : (rs.take len ++ rows ++ rs.drop (len + rows.length)).length = rs.length := by simp; omega
            rw [e]; exact q3
          · have e : (rs.take len ++ rows ++ rs.drop (len + rows.length)).length = len + rows.length := by simp; omega
            rw [e]; exact hm1'
        simpa [setL_length] using this
      · rw [hset]; exact hRR.mono T.keep
    refine (S.store h6 ⟨w1, w2, w3⟩ w4 w5 hcc hob).put hd ?_
    rw [AR]
    exact ⟨_, rfl, hroom, .inr ⟨b, _, ty, fr, h6, rfl, w6 c ty fr h8, by simp [setL_length]; exact hcap⟩⟩
/-- copy, where what is known of the source is what is copied, and what is known of the goal ends where it begins or later. -/
theorem e_cpy2 {d : Option Nat} {sz e s len e2 s2 len2 k : Nat} {x y : XA} {rs rs2 : List (List D)} (hx : evA sl x = some (.osl e sz s len)) (he : get own e = some (.rows sz rs)) (hl : s ≤ rs.length)
    (hy : evA sl y = some (.osl e2 sz s2 len2)) (he2 : get own e2 = some (.rows sz rs2)) (hk : min len2 len = k) (hl2 : s2 + k ≤ rs2.length) :
    EStep C ⟨sl, own⟩ d (.cpy sz x y) (putR d (.d (.int .i64 (k : Nat))) ⟨sl, (e, .rows sz (rs.take s ++ (rs2.drop s2).take k ++ rs.drop (s + k))) :: own⟩) := by
  intro o ho hd hf a w β S
  simp only [fits] at hf
  split at hf
  · rename_i args ts hop
    split at hf
    · rename_i p q t rest h1 h2
      simp only [Bool.and_eq_true] at hf
      obtain ⟨⟨h3, h4⟩, h5⟩ := hf
      split at h3
      · rename_i el hel
        have hargs := list2 h1
        have hv := AR_of_fitA S h4 hx
        have hw := AR_of_fitA S h5 hy
        rw [AR] at hv hw
        obtain ⟨base, cap, g3, g4, g5⟩ := hv
        obtain ⟨base2, cap2, j3, j4, j5⟩ := hw
        have hts : ts[0]? = some t := by
          have : ts.toList[0]? = some t := by rw [h2]; rfl
          simpa using this
        have hmin : Nat.min len2 len = k := hk
        have hrl : ((rs2.drop s2).take k).length = k := by simp; omega
        -- what is read
        obtain ⟨vs, hvl, hvr, hfm, hones⟩ : ∃ vs : List Value, vs.length = k * sz ∧ RowsR C.X β w sz ((rs2.drop s2).take k) vs.toArray ∧ (Builtin.firstCells sz k (a.eval q)).run C.P w = .ok vs.toArray w ∧ ∀ v ∈ vs, v.oneCell' = true := by
          rw [j3]
          rcases j5 with j5 | ⟨b, c, ty, fr, j6, rfl, j8, j9⟩
          · have : k = 0 := by omega
            subst this
            refine ⟨[], by simp, fun i r hi => by simp at hi, ?_, fun v hv => by cases hv⟩
            cases base2 with
            | none => simp [Builtin.firstCells]
            | some x => simp [Builtin.firstCells, loadCells, loadCellsFrom]
          · have hob := S.hr.own e2 _ he2
            rw [j6] at hob
            obtain ⟨vs, q1, q2, q3⟩ := rows_flat hob hl2
            refine ⟨vs, q1, q2, ?_, RowsR_ones q2 (by rw [hrl]; exact q1)⟩
            have := loadCells_run (P := C.P) q3
            rw [q1] at this
            simp only [Builtin.firstCells, this]
        have hpre : ∀ w', (match base with | some ad => (storeCells ad vs).run C.P w = Result.ok () w' | none => w' = w) →
            (execOp a.eval o).run C.P w = .ok (.value (.int .i64 (k : Nat))) w' := by
          intro w' hst
          subst hargs
          have hln : (Builtin.lenOf (a.eval q)).run C.P w = .ok len2 w := by rw [j3]; rfl
          simp only [execOp, hop, resolve, List.map_toArray, List.map_cons, List.map_nil, Sem.run_bind, Sem.run_pure, Result.andThen_ok, invoke, builtin, Builtin.copy_, hts, List.getElem?_toArray, List.getElem?_cons_zero, List.getElem?_cons_succ,
            run_underlying (sliceOf_some hel), g3, hln, szIs_some h3, hmin, hfm]
          cases base with
          | none => subst hst; rfl
          | some ad => simp only [hst, Result.andThen_ok, Sem.run_bind, Sem.run_pure]; rfl
        rcases g5 with g5 | ⟨b, c, ty, fr, g6, g7, g8, g9⟩
        · have hz : k = 0 := by omega
          subst hz
          have hvn : vs = [] := List.eq_nil_of_length_eq_zero (by rw [hvl]; simp)
          refine ⟨_, w, β, hpre w (by
            subst hvn
            cases base with
            | none => rfl
            | some ad => rfl), .inr ⟨_, rfl, ?_⟩⟩
          have S1 : SatB C ⟨sl, (e, .rows sz (rs.take s ++ (rs2.drop s2).take 0 ++ rs.drop (s + 0))) :: own⟩ a w β := by
            have e1 : rs.take s ++ (rs2.drop s2).take 0 ++ rs.drop (s + 0) = rs := by simp
            rw [e1]
            exact S.le (fun k x hx => hx) (fun k ob hk => by
              rw [get_cons] at hk
              split at hk
              · rename_i hke; subst hke; cases hk; exact he
              · exact hk)
          exact S1.putR hd (by rw [AR, DR])
        · subst g7
          have hob0 := S.hr.own e _ he
          rw [g6] at hob0
          obtain ⟨c0, ty0, fr0, q1, q2, q3, q4⟩ := hob0
          rw [g8] at q1; cases q1
          have hm0 : (s + k) * sz ≤ c.size := Nat.le_trans (Nat.mul_le_mul_right _ (by omega)) g9
          have hm2 := hm0
          rw [Nat.add_mul] at hm2
          have hst := storeCells_run (P := C.P) (o := s * sz) (vs := vs) g8 q2.1 (by rw [hvl]; exact hm2) hones
          obtain ⟨w1, w2, w3, w4, w5, w6⟩ := setCells_world b vs (s * sz) w
          refine ⟨_, _, β, hpre _ hst, .inr ⟨_, rfl, ?_⟩⟩
          have hcc : ∀ c' ty' fr', w.heap[b]? = some (.cells c' ty' fr') → ∃ c'' ty'' fr'', (w.setCells b (s * sz) vs).heap[b]? = some (.cells c'' ty'' fr'') ∧ c''.size = c'.size := fun c' ty' fr' h =>
            ⟨_, _, _, w6 c' ty' fr' h, by simp [setL_length]⟩
          have T := Tr.store (X := C.X) g6 w4 w5 hcc
          have hlc : (c.toList.take (s * sz)).length = s * sz := by simp; omega
          have hset : setL c.toList (s * sz) vs = c.toList.take (s * sz) ++ vs ++ c.toList.drop ((s + k) * sz) := by
            have := setL_append (c.toList.take (s * sz)) (c.toList.drop (s * sz)) vs (by rw [hvl]; simp; omega)
            rw [List.take_append_drop, hlc, hvl, List.drop_drop, ← Nat.add_mul] at this
            exact this
          have q4' : RowsR C.X β w sz rs c.toList.toArray := by simpa using q4
          have hRR : RowsR C.X β w sz (rs.take s ++ (rs2.drop s2).take k ++ rs.drop (s + k)) (c.toList.take (s * sz) ++ vs ++ c.toList.drop ((s + k) * sz)).toArray := by
            have r1 : RowsR C.X β w sz (rs.take s) (c.toList.take (s * sz)).toArray := RowsR_take q4 s
            have r3 := RowsR_drop q4' (s + k)
            have e2 : (c.toList.take (s * sz)).length = (rs.take s).length * sz := by rw [hlc, List.length_take, Nat.min_eq_left hl]
            have e3 : (c.toList.take (s * sz) ++ vs).length = (rs.take s ++ (rs2.drop s2).take k).length * sz := by
              rw [List.length_append, List.length_append, hlc, hvl, hrl, List.length_take, Nat.min_eq_left hl, Nat.add_mul]
            exact RowsR_split (RowsR_split r1 e2 hvr) e3 r3
          have hob : OBR C.X β (w.setCells b (s * sz) vs) (.rows sz (rs.take s ++ (rs2.drop s2).take k ++ rs.drop (s + k))) (some b) := by
            refine ⟨_, ty, fr, w6 c ty fr g8, by simpa [setL_length] using q2, ?_, ?_⟩
            · have : (rs.take s ++ (rs2.drop s2).take k ++ rs.drop (s + k)).length * sz ≤ c.size := by
                rcases Nat.le_total (s + k) rs.length with hq | hq
                · have e : (rs.take s ++ (rs2.drop s2).take k ++ rs.drop (s + k)).length = rs.length := by rw [List.length_append, List.length_append, hrl]; simp; omega
                  rw [e]; exact q3
                · have e : (rs.take s ++ (rs2.drop s2).take k ++ rs.drop (s + k)).length = s + k := by rw [List.length_append, List.length_append, hrl]; simp; omega
                  rw [e]; exact hm0
              simpa [setL_length] using this
            · rw [hset]; exact hRR.mono T.keep
          exact (S.store g6 ⟨w1, w2, w3⟩ w4 w5 hcc hob).putR hd (by rw [AR, DR])
      · cases h3
    · cases hf
  · cases hf
end
end Go.AM

/- AM, part 38: append of zeros beyond the capacity; whether two own slices overlap. -/
namespace Go.AM
theorem appz_growsO {P : Program} {w : World} {t u e : TypeId} {k : IntKind} {sz bytes sLen sCap n : Nat} {base : Option Addr} {old : List Value} {i : TypeInfo} {z : Value} (ht : P.underlying t = some (.slice e)) (hz : szIs P e sz = true)
    (hi : P.info? e = some i) (hb : i.bytes = bytes) (hb1 : 1 ≤ bytes) (hsz : 1 ≤ sz) (hzero : i.zero = some z) (hu : P.underlying u = some (.int k)) (hn : 1 ≤ n)
    (ho : ∀ w', Ext w w' → (Builtin.firstCells sz sLen (.slice base sLen sCap)).run P w' = .ok old.toArray w') (hroom : ¬ sLen + n ≤ sCap) (hbound : Builtin.nextslicecap (sLen + n) sCap * bytes ≤ 2 ^ 48) (hnb : (sLen + n) * bytes ≤ 2 ^ 48) (ty : TypeId) :
    ∃ newCap w1 cells, sLen + n ≤ newCap ∧ Ext w w1 ∧ w1.heap = w.heap ∧ cells = old.toArray ++ Builtin.zeroCells z.cells n ++ Builtin.zeroCells z.cells (newCap - (sLen + n)) ∧
      (Builtin.append_ #[t, u] ty #[.slice base sLen sCap, .int .i64 n]).run P w = .ok (.slice (some ⟨w.heap.size, 0, none⟩) (sLen + n) newCap) { w1 with heap := w1.heap.push (.cells cells e) } := by
  have hq : (Question.appendCap (sLen + n) sCap e).forced = false := rfl
  let newCap := (Question.appendCap (sLen + n) sCap e).cut (w.tape w.drawn (.appendCap (sLen + n) sCap e))
  let w1 : World := { w with drawn := w.drawn + 1 }
  have hcap : sLen + n ≤ newCap := by show sLen + n ≤ sLen + n + _ % _; omega
  have hch : (choose (.appendCap (sLen + n) sCap e)).run P w = .ok newCap w1 := by
    simp [choose, Sem.run, hq, newCap, w1]
  have hn48 : sLen + n ≤ 2 ^ 48 := Nat.le_trans (by have := Nat.mul_le_mul_left (sLen + n) hb1; omega) hnb
  have hwr : IntKind.i64.wrap (n : Int) = n := wrap_in (by omega) (by omega)
  have hl0 : ¬ ((n : Int) < 0) := by omega
  have hnb1 : n * bytes ≤ 2 ^ 48 := Nat.le_trans (Nat.mul_le_mul_right _ (by omega)) hnb
  have hbd0 : ¬ ((n : Int) * (i.bytes : Int) > 2 ^ 48) := by rw [hb]; omega
  have hns : n * sz ≠ 0 := by
    have := Nat.mul_le_mul_left n hsz; omega
  have hby : (typeInfo e).run P w = .ok i w := by simp [typeInfo, hi]
  have hby1 : (typeInfo e).run P w1 = .ok i w1 := by simp [typeInfo, hi]
  have hzv : (zeroValue e).run P w1 = .ok z w1 := by simp [zeroValue, typeInfo, hi, hzero]
  have hbd : ¬ (Builtin.nextslicecap (sLen + n) sCap * i.bytes > 2 ^ 48) := by rw [hb]; omega
  have hmax : ¬ (((sLen + n : Nat) : Int) > IntKind.i64.max) := by
    have : IntKind.i64.max = 9223372036854775807 := rfl
    rw [this]; omega
  have hu2 : ∀ w', (underlying u).run P w' = .ok (.int k) w' := fun w' => run_underlying hu w'
  refine ⟨newCap, w1, _, hcap, Ext.drew w, rfl, rfl, ?_⟩
  simp only [Builtin.append_, List.getElem?_toArray, List.getElem?_cons_zero, List.getElem?_cons_succ, Sem.run_bind, run_underlying ht, Result.andThen_ok, szIs_some hz, hu2, Sem.run_pure, asInt, asIntOf, hwr, hl0, if_false, hby, hbd0, if_true,
    Int.toNat_natCast, hroom, hmax, false_and, hbd, hch, askRoom_run, hby1, ho w1 (Ext.drew w), hns, hzv, Bool.not_true, Bool.false_eq_true]
  simp [newRow, newObj, Sem.run, w1]
  exact ⟨rfl, rfl, rfl⟩
section
variable {C : Cx} {sl : List (Nat × AV)} {own : List (Nat × OB)}
theorem e_appz_grow {d sz bytes e s len cap n : Nat} {zs : List AM.K} {x y : XA} {rs : List (List D)} (hx : evA sl x = some (.oslc e sz s len cap)) (he : get own e = some (.rows sz rs)) (hlen : s + len ≤ rs.length)
    (hy : evA sl y = some (.d (.int .i64 (n : Int)))) (hn : 1 ≤ n) (hroom : cap < len + n) (hd' : d < 1000) (g1 : nrS d sl = true) (g2 : nrOs d own = true) (hb : (2 * (len + n) + 256) * bytes ≤ 2 ^ 48) :
    EStep C ⟨sl, own⟩ (some d) (.appz sz bytes zs x y) ⟨(d, .osl d sz 0 (len + n)) :: sl, (d, .rows sz ((rs.drop s).take len)) :: own⟩ := by
  intro o ho hd hf a w β S
  have hd := hd _ rfl
  obtain ⟨p, q, t, u, el, k, hop, ht, hz, hby, hzero, hsz1, hb1, hu, hp, hq⟩ := appz_fit hf
  have h1 := AR_of_fitA S hp hx
  have h2 := AR_of_fitA S hq hy
  rw [AR] at h1
  rw [AR, DR] at h2
  obtain ⟨base, h3, h4, h5⟩ := h1
  obtain ⟨ti, hti, htb⟩ := byIs_some hby
  obtain ⟨z0, zv, hz1, hz2, hz3, hz4⟩ := zeroIs_some hzero
  rw [hti] at hz1; cases hz1
  have hrl : ((rs.drop s).take len).length = len := by simp; omega
  obtain ⟨vs, hvl, hvr, hfm, hones⟩ : ∃ vs : List Value, vs.length = len * sz ∧ RowsR C.X β w sz ((rs.drop s).take len) vs.toArray ∧ (∀ w', Ext w w' → (Builtin.firstCells sz len (.slice base len cap)).run C.P w' = .ok vs.toArray w') ∧ ∀ v ∈ vs, v.oneCell' = true := by
    rcases h5 with j5 | ⟨b, c, ty, fr, j6, rfl, j8, j9⟩
    · have hl0 : len = 0 := by omega
      subst hl0
      refine ⟨[], by simp, fun i r hi => by simp at hi, fun w' _ => ?_, fun v hv => by cases hv⟩
      cases base with
      | none => simp [Builtin.firstCells]
      | some x => simp [Builtin.firstCells, loadCells, loadCellsFrom]
    · have hob := S.hr.own e _ he
      rw [j6] at hob
      obtain ⟨vs, q1, q2, q3⟩ := rows_flat hob hlen
      refine ⟨vs, q1, q2, fun w' hw' => ?_, RowsR_ones q2 (by rw [hrl]; exact q1)⟩
      have := loadCells_run (P := C.P) (rangeAt_ext hw' q3)
      rw [q1] at this
      simp only [Builtin.firstCells, this]
  have hbd : Builtin.nextslicecap (len + n) cap * bytes ≤ 2 ^ 48 := Nat.le_trans (Nat.mul_le_mul_right _ (nextcap_le _ _ (by omega))) hb
  obtain ⟨newCap, w1, cells, c1, c2, c3, c4, c5⟩ := appz_growsO (w := w) (base := base) (sLen := len) (sCap := cap) ht hz hti htb hb1 hsz1 hz2 hu hn hfm (by omega) hbd (Nat.le_trans (Nat.mul_le_mul_right _ (by omega)) hb) o.type
  have hrun : (execOp a.eval o).run C.P w = .ok (.value (.slice (some ⟨w.heap.size, 0, none⟩) (len + n) newCap)) { w1 with heap := w1.heap.push (.cells cells el) } := by
    simp only [execOp, hop, resolve, List.map_toArray, List.map_cons, List.map_nil, Sem.run_bind, Sem.run_pure, Result.andThen_ok, invoke, builtin, h3, h2, c5]
  have hzc : zv.cells.size = sz := by
    have e1 := szIs_some hz w
    have e2 : (sizeOf el).run C.P w = .ok ti.size w := by simp [sizeOf, typeInfo, hti]
    rw [e2] at e1; simp at e1
    have := AL_len (fitZ_AL (X := C.X) (β := β) (w := w) hz3)
    simp at this
    omega
  refine ⟨_, _, setN β d (some w1.heap.size), hrun, .inr ⟨_, rfl, ?_⟩⟩
  have S1 := S.ext c2
  have hw1 : w1.heap.size = w.heap.size := by rw [c3]
  obtain ⟨r1, hr1, hr2⟩ := zeroCells_toList zv.cells n
  obtain ⟨r2, hr3, hr4⟩ := zeroCells_toList zv.cells (newCap - (len + n))
  have hcl : cells = (vs ++ (r1 ++ r2)).toArray := by rw [c4, hr1, hr3]; simp
  have hcs : cells.size = newCap * sz := by
    rw [hcl]
    simp only [List.size_toArray, List.length_append, hvl, hr2, hr4, hzc]
    rw [← Nat.add_mul, ← Nat.add_mul]
    congr 1; omega
  have hRR : RowsR C.X β w1 sz ((rs.drop s).take len) cells := by
    rw [hcl]
    exact (RowsR_more hvr _).mono ⟨c2.size, fun b _ hb => c2.same b hb, fun b hb _ => hb⟩
  have hob := rows_new (X := C.X) (β := β) (w := w1) (d := d) (sz := sz) (rs := (rs.drop s).take len) cells el (0, 0) (thaws_none _ _) hRR (by rw [hrl, hcs]; exact Nat.mul_le_mul_right _ (by omega))
  refine (S1.alloc' hd' g1 g2 hob).put hd ?_
  rw [AR]
  refine ⟨_, newCap, rfl, c1, .inr ⟨w1.heap.size, _, el, (0, 0), by simp [setN], by simp [hw1], heap_push_new, ?_⟩⟩
  rw [Nat.zero_add, hcs]; exact Nat.le_refl _
end
theorem frozen_no {w : World} {b o : Nat} {c : Array Value} {ty : TypeId} {fr : Nat × Nat} (h : w.heap[b]? = some (.cells c ty fr)) (ht : thaw fr c.size) (ho : o < c.size) (s : Option Nat) : w.frozen? ⟨b, o, s⟩ = false := by
  obtain ⟨lo, hi⟩ := fr
  have h2 : ¬ (lo ≤ o ∧ o < hi) := ht o ho
  unfold World.frozen?
  simp only [h]
  rw [← Bool.decide_and]; exact decide_eq_false h2
theorem choose_run (P : Program) (w : World) (q : Question) (hq : q.forced = false) : ∃ k, (choose q).run P w = .ok k { w with drawn := w.drawn + 1 } := ⟨_, by simp [choose, Sem.run, hq]; rfl⟩
/-- What 'overlaps' says of two blocks: something. -/
theorem ovl_run {P : Program} (w : World) (tS tR el : TypeId) (ht : P.underlying tS = some (.slice el)) {sz : Nat} (hz : szIs P el sz = true) (a b : Addr) (la ca lb cb : Nat) (hne : a.block ≠ b.block) (tA tB : TypeId) (kA kB : Nat)
    (hsa : w.shape? a.block = some (tA, kA)) (hsb : w.shape? b.block = some (tB, kB)) (hkA : kA ≠ 0) (hkB : kB ≠ 0) (hfa : w.frozen? a = false) (hfb : w.frozen? b = false) :
    ∃ r w', (w' = w ∨ w' = { w with drawn := w.drawn + 1 }) ∧ (Extern.SlicesOverlaps.overlaps #[tS, tS] #[tR] #[.slice (some a) la ca, .slice (some b) lb cb]).run P w = .ok (.bool r) w' := by
  have hnb : (a.block != b.block) = true := by simpa using hne
  have hnb' : (a.block == b.block) = false := by simpa using hne
  have key : ∀ (r : Bool) (w' : World), Sem.run P (α := Value) (do
    let some t := (#[tS, tS] : Array TypeId)[0]? | stuck "slices.overlaps: no parameter types"
    let .slice elem ← underlying t | stuck "slices.overlaps: slice type expected"
    let size ← sizeOf elem
    match (some a : Option Addr), (some b : Option Addr) with
    | some a, some b =>
      if la = 0 ∨ lb = 0 ∨ size = 0 then pure (Value.bool false)
      else if a.block != b.block && (← frozen a) && (← frozen b) then unsupported .addressObserved
      else do
        if a.block != b.block then do
          noView a; noView b
          if ← mayBeOne a b then return Value.bool ((← choose (.extern "sameAddr.stringBytes" 2)) == 1)
        pure (Value.bool (a.block == b.block && a.off < b.off + lb * size && b.off < a.off + la * size))
    | _, _ => pure (Value.bool false)) w = .ok (.bool r) w' → (Extern.SlicesOverlaps.overlaps #[tS, tS] #[tR] #[.slice (some a) la ca, .slice (some b) lb cb]).run P w = .ok (.bool r) w' := fun r w' h => h
  by_cases h0 : la = 0 ∨ lb = 0 ∨ sz = 0
  · exact ⟨false, w, .inl rfl, key _ _ (by simp [run_underlying ht, szIs_some hz, h0])⟩
  · cases kA with
    | zero => exact absurd rfl hkA
    | succ kA =>
      cases kB with
      | zero => exact absurd rfl hkB
      | succ kB =>
        cases ea : w.frozen? { block := a.block, off := kA + 1 } with
        | false => exact ⟨false, w, .inl rfl, key _ _ (by
            simp [run_underlying ht, szIs_some hz, h0, hnb, hnb', frozen, noView, viewAt, mayBeOne, stringish, shape, Sem.run, hsa, hsb, hfa, hfb, ea])⟩
        | true =>
          cases eb : w.frozen? { block := b.block, off := kB + 1 } with
          | false => exact ⟨false, w, .inl rfl, key _ _ (by
              simp [run_underlying ht, szIs_some hz, h0, hnb, hnb', frozen, noView, viewAt, mayBeOne, stringish, shape, Sem.run, hsa, hsb, hfa, hfb, ea, eb])⟩
          | true =>
            have hq : (Question.extern "sameAddr.stringBytes" 2).forced = false := rfl
            refine ⟨(Question.extern "sameAddr.stringBytes" 2).cut (w.tape w.drawn (.extern "sameAddr.stringBytes" 2)) == 1, _, .inr rfl, key _ _ ?_⟩
            simp [run_underlying ht, szIs_some hz, h0, hnb, hnb', frozen, noView, viewAt, mayBeOne, stringish, shape, Sem.run, hsa, hsb, hfa, hfb, ea, eb, choose, hq]
section
variable {C : Cx} {sl : List (Nat × AV)} {own : List (Nat × OB)}
/-- Whether two own slices of different blocks overlap: whatever is said. -/
theorem ax_ovl {gs : List Gd} {K : St → Prop} {its : List XI} {d f : Nat} {x y : XA} {e1 sz1 s1 l1 e2 sz2 s2 l2 : Nat} {o1 o2 : OB} {fn : Func} {tS tR el : TypeId} {sz : Nat} (hx : evA sl x = some (.osl e1 sz1 s1 l1)) (hy : evA sl y = some (.osl e2 sz2 s2 l2)) (he1 : get own e1 = some o1) (he2 : get own e2 = some o2)
    (hne : Nat.beq e1 e2 = false) (hf : C.P.funcs[f]? = some fn) (hname : (fn.name == "runtime.NumGoroutine") = false) (hb : fn.body.isNone = true) (hn : Extern.findNext fn = none) (he : Extern.find fn = some (Extern.SlicesOverlaps.overlaps #[tS, tS] #[tR]))
    (ht : C.P.underlying tS = some (.slice el)) (hz : szIs C.P el sz = true) (hsz1 : 1 ≤ sz1) (hsz2 : 1 ≤ sz2) (h : ∀ b, AXI C false gs its ⟨(d, .d (.bool b)) :: sl, own⟩ K) : AXI C false gs (.op (some d) (.ext2 f x y) :: its) ⟨sl, own⟩ K := by
  refine ax_eP (Q := fun st' => ∃ b, st' = ⟨(d, .d (.bool b)) :: sl, own⟩) ?_ (fun st' ⟨b, hb⟩ => by subst hb; exact h b)
  intro o ho hd hfit a w β S
  have hd := hd _ rfl
  simp only [fits] at hfit
  split at hfit
  · rename_i g args ts hop
    simp only [Bool.and_eq_true] at hfit
    obtain ⟨h1, h2⟩ := hfit
    split at h2
    · rename_i p q hpq
      simp only [Bool.and_eq_true] at h2
      have hv := AR_of_fitA S h2.1 hx
      have hw := AR_of_fitA S h2.2 hy
      rw [AR] at hv hw
      obtain ⟨a1, c1, g1, g2, g3⟩ := hv
      obtain ⟨a2, c2, j1, j2, j3⟩ := hw
      have hg : a.eval g = .func (.func f) #[] #[] := by
        have := AR_of_fitA S h1 (v := .fn (.func f) []) rfl
        rw [AR] at this
        obtain ⟨vs, h3, h4⟩ := this
        have : vs = #[] := by
          have : vs.toList = [] := by simpa [AL] using h4
          simpa using this
        rw [this] at h3; exact h3
      have hargs := list2 hpq
      have nil1 : ∀ (x y : Option Addr), l1 = 0 ∨ l2 = 0 → (Extern.SlicesOverlaps.overlaps #[tS, tS] #[tR] #[.slice x l1 c1, .slice y l2 c2]).run C.P w = .ok (.bool false) w := by
        intro x y h0
        have h0' : l1 = 0 ∨ l2 = 0 ∨ sz = 0 := h0.elim .inl (fun h => .inr (.inl h))
        show Sem.run C.P (α := Value) (do
          let some t := (#[tS, tS] : Array TypeId)[0]? | stuck "slices.overlaps: no parameter types"
          let .slice elem ← underlying t | stuck "slices.overlaps: slice type expected"
          let size ← sizeOf elem
          match x, y with
          | some a, some b =>
            if l1 = 0 ∨ l2 = 0 ∨ size = 0 then pure (Value.bool false)
            else if a.block != b.block && (← frozen a) && (← frozen b) then unsupported .addressObserved
            else do
              if a.block != b.block then do
                noView a; noView b
                if ← mayBeOne a b then return Value.bool ((← choose (.extern "sameAddr.stringBytes" 2)) == 1)
              pure (Value.bool (a.block == b.block && a.off < b.off + l2 * size && b.off < a.off + l1 * size))
          | _, _ => pure (Value.bool false)) w = _
        cases x <;> cases y <;> simp [run_underlying ht, szIs_some hz, h0']
      obtain ⟨r, w', hw', key⟩ : ∃ r w', (w' = w ∨ w' = { w with drawn := w.drawn + 1 }) ∧ (Extern.SlicesOverlaps.overlaps #[tS, tS] #[tR] #[.slice a1 l1 c1, .slice a2 l2 c2]).run C.P w = .ok (.bool r) w' := by
        by_cases h0 : l1 = 0 ∨ l2 = 0
        · exact ⟨false, w, .inl rfl, nil1 a1 a2 h0⟩
        · rcases g3 with g3 | ⟨b1, cc1, ty1, fr1, k1, rfl, k3, k4⟩
          · omega
          · rcases j3 with j3 | ⟨b2, cc2, ty2, fr2, m1, rfl, m3, m4⟩
            · omega
            · have hbb : b1 ≠ b2 := fun h => by
                subst h
                have := S.hr.inj e1 e2 b1 k1 m1
                rw [this] at hne; simp at hne
              have hthaw : ∀ {e : Nat} {ob : OB} {b : Nat} {cc : Array Value} {ty : TypeId} {fr : Nat × Nat}, get own e = some ob → β e = some b → w.heap[b]? = some (.cells cc ty fr) → thaw fr cc.size := by
                intro e ob b cc ty fr h1 h2 h3
                have hob := S.hr.own e _ h1
                rw [h2] at hob
                cases ob with
                | box cs => obtain ⟨c, ty', fr', q1, q2, _⟩ := hob; rw [h3] at q1; cases q1; exact q2
                | rows z rs => obtain ⟨c, ty', fr', q1, q2, _⟩ := hob; rw [h3] at q1; cases q1; exact q2.1
              have n1 : s1 * sz1 < cc1.size := by
                have : (s1 + 1) * sz1 ≤ (s1 + c1) * sz1 := Nat.mul_le_mul_right _ (by omega)
                rw [Nat.add_mul] at this; omega
              have n2 : s2 * sz2 < cc2.size := by
                have : (s2 + 1) * sz2 ≤ (s2 + c2) * sz2 := Nat.mul_le_mul_right _ (by omega)
                rw [Nat.add_mul] at this; omega
              exact ovl_run w tS tR el ht hz ⟨b1, s1 * sz1, none⟩ ⟨b2, s2 * sz2, none⟩ l1 c1 l2 c2 hbb ty1 ty2 cc1.size cc2.size
                (by simp only [World.shape?, k3]) (by simp only [World.shape?, m3]) (by omega) (by omega) (frozen_no k3 (hthaw he1 k1 k3) n1 none) (frozen_no m3 (hthaw he2 m1 m3) n2 none)
      have hE : Ext w w' := by
        rcases hw' with rfl | rfl
        · exact Ext.refl _
        · exact Ext.drew _
      have hrun : (execOp a.eval o).run C.P w = .ok (.value (.bool r)) w' := by
        subst hargs
        simp only [execOp, hop, resolve, List.map_toArray, List.map_cons, List.map_nil, Sem.run_bind, Sem.run_pure, Result.andThen_ok, hg, invoke, g1, j1, Deferred.ofValue]
        have := run_callFunc_extern hf hname hb hn he #[.slice a1 l1 c1, .slice a2 l2 c2] w
        rw [key] at this
        simpa using this
      exact ⟨_, _, w', β, ⟨r, rfl⟩, hrun, .inr ⟨_, rfl, (S.ext hE).put hd (by rw [AR, DR])⟩⟩
    · cases h2
  · cases hfit
/-- .. that they do not, where the elements have several cells. -/
theorem ax_ovl0 {rs1 : List (List D)} {gs : List Gd} {K : St → Prop} {its : List XI} {d f : Nat} {x y : XA} {e1 sz1 s1 l1 e2 sz2 s2 l2 : Nat} {o2 : OB} {fn : Func} {tS tR el : TypeId} {sz : Nat} (hx : evA sl x = some (.osl e1 sz1 s1 l1)) (hy : evA sl y = some (.osl e2 sz2 s2 l2)) (he1 : get own e1 = some (.rows sz1 rs1)) (hs1 : sz1 ≠ 1) (he2 : get own e2 = some o2)
    (hne : Nat.beq e1 e2 = false) (hf : C.P.funcs[f]? = some fn) (hname : (fn.name == "runtime.NumGoroutine") = false) (hb : fn.body.isNone = true) (hn : Extern.findNext fn = none) (he : Extern.find fn = some (Extern.SlicesOverlaps.overlaps #[tS, tS] #[tR]))
    (ht : C.P.underlying tS = some (.slice el)) (hz : szIs C.P el sz = true) (hsz1 : 1 ≤ sz1) (hsz2 : 1 ≤ sz2) (h : AXI C false gs its ⟨(d, .d (.bool false)) :: sl, own⟩ K) : AXI C false gs (.op (some d) (.ext2 f x y) :: its) ⟨sl, own⟩ K := by
  refine ax_eP (Q := fun st' => st' = ⟨(d, .d (.bool false)) :: sl, own⟩) ?_ (fun st' hb => by subst hb; exact h)
  intro o ho hd hfit a w β S
  have hd := hd _ rfl
  simp only [fits] at hfit
  split at hfit
  · rename_i g args ts hop
    simp only [Bool.and_eq_true] at hfit
    obtain ⟨h1, h2⟩ := hfit
    split at h2
    · rename_i p q hpq
      simp only [Bool.and_eq_true] at h2
      have hv := AR_of_fitA S h2.1 hx
      have hw := AR_of_fitA S h2.2 hy
      rw [AR] at hv hw
      obtain ⟨a1, c1, g1, g2, g3⟩ := hv
      obtain ⟨a2, c2, j1, j2, j3⟩ := hw
      have hg : a.eval g = .func (.func f) #[] #[] := by
        have := AR_of_fitA S h1 (v := .fn (.func f) []) rfl
        rw [AR] at this
        obtain ⟨vs, h3, h4⟩ := this
        have : vs = #[] := by
          have : vs.toList = [] := by simpa [AL] using h4
          simpa using this
        rw [this] at h3; exact h3
      have hargs := list2 hpq
      have nil1 : ∀ (x y : Option Addr), l1 = 0 ∨ l2 = 0 → (Extern.SlicesOverlaps.overlaps #[tS, tS] #[tR] #[.slice x l1 c1, .slice y l2 c2]).run C.P w = .ok (.bool false) w := by
        intro x y h0
        have h0' : l1 = 0 ∨ l2 = 0 ∨ sz = 0 := h0.elim .inl (fun h => .inr (.inl h))
        show Sem.run C.P (α := Value) (do
          let some t := (#[tS, tS] : Array TypeId)[0]? | stuck "slices.overlaps: no parameter types"
          let .slice elem ← underlying t | stuck "slices.overlaps: slice type expected"
          let size ← sizeOf elem
          match x, y with
          | some a, some b =>
            if l1 = 0 ∨ l2 = 0 ∨ size = 0 then pure (Value.bool false)
            else if a.block != b.block && (← frozen a) && (← frozen b) then unsupported .addressObserved
            else do
              if a.block != b.block then do
                noView a; noView b
                if ← mayBeOne a b then return Value.bool ((← choose (.extern "sameAddr.stringBytes" 2)) == 1)
              pure (Value.bool (a.block == b.block && a.off < b.off + l2 * size && b.off < a.off + l1 * size))
          | _, _ => pure (Value.bool false)) w = _
        cases x <;> cases y <;> simp [run_underlying ht, szIs_some hz, h0']
      have key : (Extern.SlicesOverlaps.overlaps #[tS, tS] #[tR] #[.slice a1 l1 c1, .slice a2 l2 c2]).run C.P w = .ok (.bool false) w := by
        by_cases h0 : l1 = 0 ∨ l2 = 0
        · exact nil1 a1 a2 h0
        · rcases g3 with g3 | ⟨b1, cc1, ty1, fr1, k1, rfl, k3, k4⟩
          · omega
          · rcases j3 with j3 | ⟨b2, cc2, ty2, fr2, m1, rfl, m3, m4⟩
            · omega
            · have hbb : b1 ≠ b2 := fun h => by
                subst h
                have := S.hr.inj e1 e2 b1 k1 m1
                rw [this] at hne; simp at hne
              have hthaw : ∀ {e : Nat} {ob : OB} {b : Nat} {cc : Array Value} {ty : TypeId} {fr : Nat × Nat}, get own e = some ob → β e = some b → w.heap[b]? = some (.cells cc ty fr) → thaw fr cc.size := by
                intro e ob b cc ty fr h1 h2 h3
                have hob := S.hr.own e _ h1
                rw [h2] at hob
                cases ob with
                | box cs => obtain ⟨c, ty', fr', q1, q2, _⟩ := hob; rw [h3] at q1; cases q1; exact q2
                | rows z rs => obtain ⟨c, ty', fr', q1, q2, _⟩ := hob; rw [h3] at q1; cases q1; exact q2.1
              have n1 : s1 * sz1 < cc1.size := by
                have : (s1 + 1) * sz1 ≤ (s1 + c1) * sz1 := Nat.mul_le_mul_right _ (by omega)
                rw [Nat.add_mul] at this; omega
              have n2 : s2 * sz2 < cc2.size := by
                have : (s2 + 1) * sz2 ≤ (s2 + c2) * sz2 := Nat.mul_le_mul_right _ (by omega)
                rw [Nat.add_mul] at this; omega
              have hend : w.frozen? ⟨b1, cc1.size, none⟩ = false := by
                have hob := S.hr.own e1 _ he1
                rw [k1] at hob
                obtain ⟨c, ty', fr', q1, q2, _⟩ := hob
                rw [k3] at q1; cases q1
                have q3 := q2.2 hs1
                obtain ⟨lo, hi⟩ := fr1
                unfold World.frozen?
                simp only [k3]
                rw [← Bool.decide_and]; exact decide_eq_false q3
              exact Lib.run_overlaps_apart w tS tR el ht sz (szIs_some hz) ⟨b1, s1 * sz1, none⟩ ⟨b2, s2 * sz2, none⟩ l1 c1 l2 c2 hbb ty1 ty2 cc1.size cc2.size
                (by simp only [World.shape?, k3]) (by simp only [World.shape?, m3]) (by omega) (frozen_no k3 (hthaw he1 k1 k3) n1 none) hend
      have hrun : (execOp a.eval o).run C.P w = .ok (.value (.bool false)) w := by
        subst hargs
        simp only [execOp, hop, resolve, List.map_toArray, List.map_cons, List.map_nil, Sem.run_bind, Sem.run_pure, Result.andThen_ok, hg, invoke, g1, j1, Deferred.ofValue]
        have := run_callFunc_extern hf hname hb hn he #[.slice a1 l1 c1, .slice a2 l2 c2] w
        rw [key] at this
        simpa using this
      exact ⟨_, _, w, β, rfl, hrun, .inr ⟨_, rfl, S.put hd (by rw [AR, DR])⟩⟩
    · cases h2
  · cases hfit
end
end Go.AM

/- AM, part 39: a slice with three bounds whose value is not used. -/
namespace Go.AM
theorem q_slcX {C : Cx} {st : St} {sz : Nat} {x lo hi mx : XA} {e s len c : Nat} {k1 k2 k3 : IntKind} {a b m : Int} (hx : evA st.sl x = some (.oslc e sz s len c)) (ha : evA st.sl lo = some (.d (.int k1 a))) (hb : evA st.sl hi = some (.d (.int k2 b))) (hm : evA st.sl mx = some (.d (.int k3 m)))
    (h0 : 0 ≤ a) (h1 : a ≤ b) (h2 : b ≤ m) (h3 : m ≤ c) : QStep C st (.slc sz x (some lo) (some hi) (some mx)) .dead := by
  intro op hf ac w β S
  simp only [fits] at hf
  split at hf
  · rename_i t y l h mm ho
    simp only [Bool.and_eq_true] at hf
    obtain ⟨⟨⟨⟨g1, g2⟩, g3⟩, g4⟩, g5⟩ := hf
    obtain ⟨yl, rfl, hyl⟩ := fitO_some g3
    obtain ⟨yh, rfl, hyh⟩ := fitO_some g4
    obtain ⟨ym, rfl, hym⟩ := fitO_some g5
    have v := AR_of_fitA S g2 hx
    have vl := AR_of_fitA S hyl ha
    have vh := AR_of_fitA S hyh hb
    have vm := AR_of_fitA S hym hm
    rw [AR] at v
    rw [AR, DR] at vl vh vm
    obtain ⟨ad, v1, v2, v3⟩ := v
    split at g1
    · rename_i el hel
      refine ⟨.slice (if m.toNat = a.toNat then ad else ad.map (·.add (a.toNat * sz))) (b.toNat - a.toNat) (m.toNat - a.toNat), by rw [AR]; trivial, fun w' _ => ?_⟩
      have e1 : a ≤ ((b.toNat : Nat) : Int) := by omega
      have e2 : b ≤ ((m.toNat : Nat) : Int) := by omega
      have hb0 : 0 ≤ b := by omega
      have hm0 : 0 ≤ m := by omega
      simp only [execOp, ho, Instr.sliceAt, Sem.run_bind, run_underlying (sliceOf_some hel), Result.andThen_ok, Instr.slice, v1, Option.map_some, Instr.sliceBounds, vl, vh, vm, Sem.run_pure, sliceBound_run hm0 h3, sliceBound_run hb0 e2, sliceBound_run h0 e1, szIs_some g1]
    · cases g1
  · cases hf
end Go.AM

/- AM, part 40: a literal as plain data, also in a region that draws. -/
namespace Go.AM
theorem lit_data {C : Cx} {st : St} {a : Act} {w : World} {β : Names} (S : SatB C st a w β) {sz : Nat} {rows : List (List D)} {us : Array Value} {e : TypeId} (hr : RowsR C.X β w sz rows us) (hl : us.size = rows.length * sz) :
    DR { w with heap := w.heap.push (.cells us e) } (okf C.X β) (.sl sz rows) (.slice (some ⟨w.heap.size, 0, none⟩) rows.length rows.length) := by
  let w' : World := { w with heap := w.heap.push (.cells us e) }
  have hs : w'.heap.size = w.heap.size + 1 := by simp [w']
  have hsame : ∀ b, b < w.heap.size → w'.heap[b]? = w.heap[b]? := fun b hb => by simp [w', Array.getElem?_push]; omega
  have hnew : okf C.X β w.heap.size := ⟨fun h => by have := S.xlt _ h; have := S.fr.size; omega, fun k hk => by have := S.hr.lt _ _ hk; omega⟩
  let X2 : Nat → Prop := fun b => C.X b ∨ ∃ k, β k = some b
  let β2 : Names := fun k => if k = 0 then some w.heap.size else none
  have K : Keep (okf C.X β) (okf X2 β2) w w' := ⟨by omega, fun b _ hb => hsame b hb, fun b ⟨p1, p2⟩ hb => ⟨fun h => h.elim p1 (fun ⟨k, hk⟩ => p2 k hk), fun k hk => by
    simp only [β2] at hk; split at hk
    · cases hk; omega
    · cases hk⟩⟩
  have H2 : HR X2 β2 [(0, .rows sz rows)] w' := {
    inj := fun k k' b p q => by
      simp only [β2] at p q
      split at p
      · split at q
        · omega
        · cases q
      · cases p
    lt := fun k b p => by
      simp only [β2] at p
      split at p
      · cases p; omega
      · cases p
    notX := fun k b p h => by
      simp only [β2] at p
      split at p
      · cases p; exact h.elim hnew.1 (fun ⟨k, hk⟩ => hnew.2 k hk)
      · cases p
    own := fun k ob hk => by
      rw [get_cons] at hk
      split at hk
      · rename_i h0; subst h0; cases hk
        exact ⟨us, e, (0, 0), heap_push_new, thaws_none _ _, by omega, hr.mono K⟩
      · simp [get] at hk }
  have hA : AR X2 β2 w' (.osl 0 sz 0 rows.length) (.slice (some ⟨w.heap.size, 0, none⟩) rows.length rows.length) := by
    rw [AR]
    exact ⟨some ⟨w.heap.size, 0, none⟩, rows.length, rfl, Nat.le_refl _, .inr ⟨w.heap.size, us, e, (0, 0), rfl, by simp, heap_push_new, by simp [hl]⟩⟩
  have := osl_lend (ok' := okf C.X β) H2 (fun b ⟨p1, p2⟩ => ⟨fun h => p1 (.inl h), fun k hk => p1 (.inr ⟨k, hk⟩)⟩) (fun k b hk hb => by
    simp only [β2] at hb
    split at hb
    · cases hb; exact hnew
    · cases hb) (get_cons_self _ _ _) (show 0 + rows.length ≤ rows.length by omega) hA
  rw [List.drop_zero, List.take_length] at this
  exact this

theorem e_bsliceD {C : Cx} {sl : List (Nat × AV)} {own : List (Nat × OB)} {d sz : Nat} {xs : List XA} {rows : List (List D)} (hr : evRows sl sz xs = some rows) :
    EStep C ⟨sl, own⟩ (some d) (.bslice sz xs) ⟨(d, .d (.sl sz rows)) :: sl, own⟩ := by
  intro o ho hd hf a w β S
  have hd := hd _ rfl
  simp only [fits] at hf
  split at hf
  · rename_i t len ps hop
    simp only [Bool.and_eq_true, decide_eq_true_eq] at hf
    obtain ⟨⟨⟨⟨h3, h4⟩, h5⟩, h6⟩, h7⟩ := hf
    have h4 := Nat.eq_of_beq_eq_true h4
    subst h4
    have h7 := Nat.le_of_ble_eq_true h7
    split at h3
    · rename_i e he
      simp only [Bool.and_eq_true] at h3
      obtain ⟨h8, h9⟩ := h3
      split at h9
      · rename_i ti hti
        obtain ⟨z, hz⟩ := Option.isSome_iff_exists.1 h9
        have hzv : (zeroValue e).run C.P w = .ok z w := by simp [zeroValue, typeInfo, hti, hz]
        have main : ∀ zc : Array Value, ∃ us : List Value, Instr.fill (fun i => some (i * sz, sz)) ((Array.range (xs.length * sz)).map (zc[· % zc.size]!)) (ps.map fun x => (x.1, a.eval x.2)).toList = some us.toArray ∧ us.length = xs.length * sz ∧ RowsR C.X β w sz rows us.toArray ∧ rows.length = xs.length := by
          intro zc
          have := bslice_fill S (sz := sz) ps.toList xs 0 rows [] ((Array.range (xs.length * sz)).map (zc[· % zc.size]!)).toList h5 hr (by simp) (by simp)
          simp only [List.nil_append, Array.toArray_toList] at this
          rw [Array.toList_map]
          exact this
        have fin : ∀ us : List Value, us.length = xs.length * sz → RowsR C.X β w sz rows us.toArray → rows.length = xs.length →
            SatB C ⟨(d, .d (.sl sz rows)) :: sl, own⟩ (a.put (some d) (.slice (some ⟨w.heap.size, 0, none⟩) xs.length xs.length)) { w with heap := w.heap.push (.cells us.toArray e) } β := by
          intro us q1 q2 q3
          have X : Ext w { w with heap := w.heap.push (.cells us.toArray e) } := ⟨rfl, rfl, rfl, by simp, fun b hb => by simp [Array.getElem?_push]; omega⟩
          refine (S.ext X).put hd ?_
          rw [AR, ← q3]
          exact lit_data S q2 (by simp [q1, q3])
        have hz1 : (sizeOf e).run C.P w = .ok sz w := szIs_some h8 w
        have e1 : (ps.map fun x : Nat × Operand => match x with | (i, x) => (i, a.eval x)) = ps.map fun x => (x.1, a.eval x.2) := rfl
        by_cases hlen : xs.length * sz = 0
        · obtain ⟨us, q1, q2, q3, q4⟩ := main #[]
          refine ⟨_, _, _, ?_, .inr ⟨_, rfl, fin us q2 q3 q4⟩⟩
          simp only [execOp, hop, Instr.buildSlice, Sem.run_bind, run_underlying (sliceOf_some he), Result.andThen_ok, hz1]
          rw [if_neg (by omega)]
          simp only [hlen, if_true, Sem.run_pure, Sem.run_bind, Result.andThen_ok]
          rw [e1]
          rw [hlen] at q1
          rw [q1]
          simp [newRow, newObj, Sem.run]
        · obtain ⟨us, q1, q2, q3, q4⟩ := main z.cells
          refine ⟨_, _, _, ?_, .inr ⟨_, rfl, fin us q2 q3 q4⟩⟩
          simp only [execOp, hop, Instr.buildSlice, Sem.run_bind, run_underlying (sliceOf_some he), Result.andThen_ok, hz1]
          rw [if_neg (by omega)]
          simp only [hlen, if_false, Sem.run_pure, Sem.run_bind, Result.andThen_ok, hzv]
          rw [e1, q1]
          simp [newRow, newObj, Sem.run]
      · cases h9
    · cases h3
  · cases hf
theorem e_bsliceZ {C : Cx} {sl : List (Nat × AV)} {own : List (Nat × OB)} {d sz : Nat} :
    EStep C ⟨sl, own⟩ (some d) (.bslice sz []) ⟨(d, .zs sz) :: sl, own⟩ := by
  obtain ⟨xs, hxs⟩ : ∃ xs : List XA, xs = [] := ⟨_, rfl⟩
  obtain ⟨rows, hr⟩ : ∃ rows, evRows sl sz xs = some rows := ⟨[], by rw [hxs]; rfl⟩
  rw [← hxs]
  intro o ho hd hf a w β S
  have hd := hd _ rfl
  simp only [fits] at hf
  split at hf
  · rename_i t len ps hop
    simp only [Bool.and_eq_true, decide_eq_true_eq] at hf
    obtain ⟨⟨⟨⟨h3, h4⟩, h5⟩, h6⟩, h7⟩ := hf
    have h4 := Nat.eq_of_beq_eq_true h4
    subst h4
    have h7 := Nat.le_of_ble_eq_true h7
    split at h3
    · rename_i e he
      simp only [Bool.and_eq_true] at h3
      obtain ⟨h8, h9⟩ := h3
      split at h9
      · rename_i ti hti
        obtain ⟨z, hz⟩ := Option.isSome_iff_exists.1 h9
        have hzv : (zeroValue e).run C.P w = .ok z w := by simp [zeroValue, typeInfo, hti, hz]
        have main : ∀ zc : Array Value, ∃ us : List Value, Instr.fill (fun i => some (i * sz, sz)) ((Array.range (xs.length * sz)).map (zc[· % zc.size]!)) (ps.map fun x => (x.1, a.eval x.2)).toList = some us.toArray ∧ us.length = xs.length * sz ∧ RowsR C.X β w sz rows us.toArray ∧ rows.length = xs.length := by
          intro zc
          have := bslice_fill S (sz := sz) ps.toList xs 0 rows [] ((Array.range (xs.length * sz)).map (zc[· % zc.size]!)).toList h5 hr (by simp) (by simp)
          simp only [List.nil_append, Array.toArray_toList] at this
          rw [Array.toList_map]
          exact this
        have fin : ∀ us : List Value, us.length = xs.length * sz → RowsR C.X β w sz rows us.toArray → rows.length = xs.length →
            SatB C ⟨(d, .zs sz) :: sl, own⟩ (a.put (some d) (.slice (some ⟨w.heap.size, 0, none⟩) xs.length xs.length)) { w with heap := w.heap.push (.cells us.toArray e) } β := by
          intro us q1 q2 q3
          have X : Ext w { w with heap := w.heap.push (.cells us.toArray e) } := ⟨rfl, rfl, rfl, by simp, fun b hb => by simp [Array.getElem?_push]; omega⟩
          refine (S.ext X).put hd ?_
          rw [AR, hxs]
          exact ⟨_, rfl⟩
        have hz1 : (sizeOf e).run C.P w = .ok sz w := szIs_some h8 w
        have e1 : (ps.map fun x : Nat × Operand => match x with | (i, x) => (i, a.eval x)) = ps.map fun x => (x.1, a.eval x.2) := rfl
        by_cases hlen : xs.length * sz = 0
        · obtain ⟨us, q1, q2, q3, q4⟩ := main #[]
          refine ⟨_, _, _, ?_, .inr ⟨_, rfl, fin us q2 q3 q4⟩⟩
          simp only [execOp, hop, Instr.buildSlice, Sem.run_bind, run_underlying (sliceOf_some he), Result.andThen_ok, hz1]
          rw [if_neg (by omega)]
          simp only [hlen, if_true, Sem.run_pure, Sem.run_bind, Result.andThen_ok]
          rw [e1]
          rw [hlen] at q1
          rw [q1]
          simp [newRow, newObj, Sem.run]
        · obtain ⟨us, q1, q2, q3, q4⟩ := main z.cells
          refine ⟨_, _, _, ?_, .inr ⟨_, rfl, fin us q2 q3 q4⟩⟩
          simp only [execOp, hop, Instr.buildSlice, Sem.run_bind, run_underlying (sliceOf_some he), Result.andThen_ok, hz1]
          rw [if_neg (by omega)]
          simp only [hlen, if_false, Sem.run_pure, Sem.run_bind, Result.andThen_ok, hzv]
          rw [e1, q1]
          simp [newRow, newObj, Sem.run]
      · cases h9
    · cases h3
  · cases hf
theorem loc_bsliceD {C : Cx} {slm : List (Nat × AV)} {ownm : List (Nat × OB)} {d sz : Nat} {xs : List XA} {rows : List (List D)} (hr : evRows slm sz xs = some rows) : Loc C slm ownm (.op (some d) (.bslice sz xs)) ⟨d, .d (.sl sz rows), []⟩ := by
  intro sl own h1 h2 _
  exact ax_e (e_bsliceD (evRows_mono h1 hr)) (ax_nil ⟨fun t y h => h, fun e ob h => h⟩)
theorem loc_bsliceZ {C : Cx} {slm : List (Nat × AV)} {ownm : List (Nat × OB)} {d sz : Nat} : Loc C slm ownm (.op (some d) (.bslice sz [])) ⟨d, .zs sz, []⟩ := by
  intro sl own h1 h2 _
  exact ax_e e_bsliceZ (ax_nil ⟨fun t y h => h, fun e ob h => h⟩)
/-- Onto what holds nothing: a new own slice. -/
theorem loc_appZ {C : Cx} {slm : List (Nat × AV)} {ownm : List (Nat × OB)} {d sz bytes z n : Nat} {zs : List K} {x y : XA} {v : AV} {rows rs : List (List D)} (hx : evA slm x = some (.zs z))
    (hy : evA slm y = some v) (hsrc : ∀ sl own, (∀ e ob, get ownm e = some ob → get own e = some ob) → SrcOK C ⟨sl, own⟩ sz v rows) (hb : (2 * rows.length + 256) * bytes ≤ 2 ^ 48) (hn : rows.length = n) (hrs : rows = rs) : Loc C slm ownm (.op (some d) (.app sz bytes zs x y)) ⟨d, .osl d sz 0 n, [(d, .rows sz rs)]⟩ := by
  subst hn; subst hrs
  intro sl own h1 h2 hf
  obtain ⟨f1, f2, f3⟩ := freeN_one hf
  exact ax_e (e_app_zs (evA_mono h1 hx) (evA_mono h1 hy) (hsrc sl own h2) f1 f2 f3 hb) (ax_nil ⟨fun t y h => h, fun e ob h => h⟩)
theorem bnd0 {n bytes : Nat} (h2 : n ≤ 2097152) (hb : bytes ≤ 1024) : (2 * n + 256) * bytes ≤ 2 ^ 48 := by
  have h3 : (2 * n + 256) * bytes ≤ (2 * 2097152 + 256) * 1024 := Nat.mul_le_mul (by omega) hb
  omega
end Go.AM

/- AM, part 41: regions that draw their order: quiet ones ahead (with conditions in them), the rest one behind the other. -/
namespace Go.AM
/-- Whatever order is picked, until the first n have come up. -/
def PQ (P : Program) (ops : Array Oper) (C : World → Prop) (n : Nat) (Q : Act → Prop) : Nat → Array Bool → Act → Prop
  | 0, listed, a => Q a ∧ ∀ j, j < n → listed.getD j false = true
  | f + 1, listed, a => (∃ j, j < n ∧ listed.getD j false = false) ∧ Region.ready .any ops listed ≠ [] ∧ ∀ i ∈ Region.ready .any ops listed, qOp P ops C i (PQ P ops C n Q f (listed.setIfInBounds i true)) a
section
variable {P : Program} {ops : Array Oper} {C : World → Prop} {deps : List (List Nat)} {n : Nat}
theorem unl {listed : Array Bool} {j : Nat} (h : listed.getD j true = false) : listed.getD j false = false ∧ j < listed.size := by
  rcases Nat.lt_or_ge j listed.size with h' | h'
  · exact ⟨by simp [h'] at h ⊢; exact h, h'⟩
  · simp [Array.getElem?_eq_none h'] at h
theorem ready_lt (hD : depsOK ops deps n = true) {listed : Array Bool} (hc : Closed deps ops listed) (hu : ∃ j, j < n ∧ listed.getD j false = false) {i : Nat} (hi : i ∈ Region.ready .any ops listed) : i < n := by
  rcases Nat.lt_or_ge i n with h | h
  · exact h
  · obtain ⟨j, hj, hjl⟩ := hu
    obtain ⟨_, o, ho, _⟩ := mem_ready.1 hi
    obtain ⟨ds, h4, _, _, h5⟩ := depsOK_spec hD ho
    have := ready_deps hD hc hi j (by unfold depOf; rw [h4]; exact membN_iff.2 (h5 h j (by omega)))
    rw [hjl] at this; cases this
theorem PQ_first {Q : Act → Prop} (hD : depsOK ops deps n = true) {i : Nat} {oi : Oper} {v : Value} (hi : ops[i]? = some oi) (hin : i < n) (hsel : ∀ (j : Nat) (o : Oper) cs b, ops[j]? = some o → o.op ≠ .select cs b) :
    ∀ (fuel : Nat) (listed : Array Bool) (a : Act), Closed deps ops listed →
      (∀ j oj, ops[j]? = some oj → j ≠ i → listed.getD j true = false → (∀ e ∈ oj.after, Region.binds .any e = true → e.on ≠ i) → oi.apart ops oj = true) →
      i ∈ Region.ready .any ops listed → YieldsIn P ops C oi v a →
      PQ P ops C n Q fuel (listed.setIfInBounds i true) (a.put oi.dst v) → PQ P ops C n Q (fuel + 1) listed a := by
  intro fuel
  induction fuel with
  | zero =>
    intro listed a hc _ hr hy H
    have hiu := unl (mem_ready.1 hr).1
    refine ⟨⟨i, hin, hiu.1⟩, fun h => (by rw [h] at hr; cases hr), fun j hj => ?_⟩
    by_cases hji : j = i
    · subst hji; exact hy.qOp hi H
    · exfalso
      have hjn := ready_lt hD hc ⟨i, hin, hiu.1⟩ hj
      have hju := unl (mem_ready.1 hj).1
      have h1 := H.2 j hjn
      rw [getD_set hiu.2] at h1
      have h2 := hju.1
      simp only [h2, Bool.or_false] at h1
      exact hji (Nat.eq_of_beq_eq_true h1).symm
  | succ fuel ih =>
    intro listed a hc hfree hr hy H
    have hiu := unl (mem_ready.1 hr).1
    refine ⟨⟨i, hin, hiu.1⟩, fun h => (by rw [h] at hr; cases hr), fun j hj => ?_⟩
    by_cases hji : j = i
    · subst hji; exact hy.qOp hi H
    · have h1 := H.2.2 j (ready_mono hj hji)
      obtain ⟨hjun, oj, hoj, hall⟩ := mem_ready.1 hj
      have hnot : ∀ e ∈ oj.after, Region.binds .any e = true → e.on ≠ i := fun e he hb heq => by
        have h1 := hall e he hb
        have h0 := (mem_ready.1 hr).1
        rw [heq] at h1
        rcases Nat.lt_or_ge i listed.size with h' | h'
        · simp [h'] at h0 h1; rw [h0] at h1; cases h1
        · simp [Array.getElem?_eq_none h'] at h1
      have h2 := qOp_put hoj (hfree j oj hoj hji hjun hnot) (fun cs b => hsel i oi cs b hi) (fun cs b => hsel j oj cs b hoj) hy h1
      have hfree' : ∀ k ok, ops[k]? = some ok → k ≠ i → (listed.setIfInBounds j true).getD k true = false →
          (∀ e ∈ ok.after, Region.binds .any e = true → e.on ≠ i) → oi.apart ops ok = true := fun k ok hk hki hun hno => by
        refine hfree k ok hk hki ?_ hno
        by_cases hjk : j = k
        · subst hjk; exact hjun
        · rw [getD_set_ne true hjk] at hun; exact hun
      refine qOp_mono (fun a' h3 => ih (listed.setIfInBounds j true) a' (hc.step hD hj) hfree' (ready_mono hr (Ne.symm hji)) h3.1 ?_) h2
      rw [Array.setIfInBounds_comm _ _ hji]
      exact h3.2
theorem PQ_lex {Q : Act → Prop} (hD : depsOK ops deps n = true) (hs : Region.noSelect ops = true) : ∀ (l : List Oper) (k : Nat) (listed : Array Bool) (a : Act), Closed deps ops listed → (∀ j, j < k → listed.getD j false = true) → k + l.length = n → (∀ j, j < l.length → l[j]? = ops[k + j]?) →
    lexPF ops l.length k listed = true → wpQuiet P ops C Q l a → PQ P ops C n Q l.length listed a
  | [], k, listed, a, hc, hk, hn, _, _, h => ⟨h, fun j hj => hk j (by simp at hn; omega)⟩
  | o :: l, k, listed, a, hc, hk, hn, hl, hB, h => by
    have h0 : ops[k]? = some o := by have := hl 0 (by simp); simpa using this.symm
    simp only [List.length_cons, lexPF, Bool.and_eq_true] at hB
    obtain ⟨⟨hr, hf⟩, hB'⟩ := hB
    have hst : qOp P ops C k (wpQuiet P ops C Q l) a := by unfold qOp; simp only [h0]; exact h
    obtain ⟨v, hy, hK⟩ := yieldsIn_of_qOp h0 hst
    have hr : k ∈ Region.ready .any ops listed := by simpa using hr
    have hks := (unl (mem_ready.1 hr).1).2
    exact PQ_first hD h0 (by simp at hn; omega) (Region.noSelect_spec hs) l.length listed a hc (Region.free_spec h0 hf) hr hy
      (PQ_lex hD hs l (k + 1) _ _ (hc.step hD hr) (fun j hj => by
        rw [getD_set hks]
        by_cases hjk : k = j
        · subst hjk; simp
        · rw [hk j (by omega), Bool.or_true]) (by simp at hn; omega) (fun j hj => by have := hl (j + 1) (by simpa using hj); simpa [Nat.add_assoc, Nat.add_comm 1 j] using this) hB' hK)
theorem wpAny_of_PQ {Q : Act → Prop} {Q' : Exit → Act → World → Prop} {M : Nat} (hD : depsOK ops deps n = true)
    (hQ : ∀ listed a w, C w → Closed deps ops listed → (∀ j, listed.getD j false = true ↔ j < n) → Q a → wpAny P .any ops Q' M listed a w) :
    ∀ (f : Nat) (listed : Array Bool) (a : Act) (w : World), C w → Closed deps ops listed → (∀ k, n ≤ k → listed.getD k false = false) → PQ P ops C n Q f listed a → wpAny P .any ops Q' (f + M) listed a w
  | 0, listed, a, w, hw, hc, hk, h => by
    rw [Nat.zero_add]
    exact hQ listed a w hw hc (fun j => ⟨fun hj => (Nat.lt_or_ge j n).elim id (fun h' => by rw [hk j h'] at hj; cases hj), h.2 j⟩) h.1
  | f + 1, listed, a, w, hw, hc, hk, h => by
    rw [show f + 1 + M = (f + M) + 1 from by omega]
    refine ⟨fun h0 => absurd h0 h.2.1, fun i hi => ?_⟩
    have hin := ready_lt hD hc h.1 hi
    have his := (unl (mem_ready.1 hi).1).2
    exact wpOp_of_qOp hw (fun a' w' hw' hq => wpAny_of_PQ hD hQ f _ a' w' hw' (hc.step hD hi) (fun k hk' => by
      rw [getD_set his, hk k hk', Bool.or_false]
      cases hb : Nat.beq i k with
      | false => rfl
      | true => have := Nat.eq_of_beq_eq_true hb; omega) hq) (h.2.2 i hi)
end
theorem cx_drawP {C : Cx} {st : St} {Kn : Kont} {Ke : List (Nat × Kont)} {Kr : Kont} {deps : List (List Nat)} {hd tl : List XI}
    (h : AXI C true [] hd st (fun st' => AXI C false [] tl st' Kn)) : AX C (.drawP deps hd tl) st Kn Ke Kr := by
  intro c hf a w S
  simp only [fitsC] at hf
  split at hf
  · rename_i id ops
    unfold fitsDP at hf
    split at hf
    · rename_i n hn
      simp only [Bool.and_eq_true] at hf
      obtain ⟨⟨⟨⟨f2, f3⟩, f4⟩, f5⟩, f6⟩ := hf
      have f2 := sizeIs_eq f2
      have hns : n ≤ ops.size := fitIs_le _ _ _ _ _ _ _ _ f2
      refine wp_region_any f3 ?_
      have hq := h ops _ (Rn.quiet C ops (fun a w => ∃ st', AXI C false [] tl st' Kn ∧ Sat C st' a w)) 0 0 n hn [] a w S (fun g hg => by cases hg)
        (fun st' a' w' hw hK S' _ => by
          have := hw rfl
          subst this
          exact fun w'' hw'' => ⟨st', hK, S'.ext hw''⟩)
      unfold WQ at hq
      rw [List.append_nil, Nat.sub_zero] at hq
      have hl : (ops.toList.take n).length = n := by simp; omega
      have e : (List.range' 0 n).filterMap (fun i => ops[i]?) = ops.toList.take n := by
        have := filterMap_range' (ops.toList.take n) 0 (fun i => ops[i]?) (fun j hj => by
          rw [hl] at hj
          simp [List.getElem?_take, hj])
        rwa [hl] at this
      rw [e] at hq
      have hc0 : Closed deps ops (Array.replicate ops.size false) := ⟨by simp, fun i j hi _ => by
        rcases Nat.lt_or_ge i ops.size with h' | h'
        · simp [h'] at hi
        · simp [Array.getElem?_eq_none (xs := Array.replicate ops.size false) (i := i) (by simpa using h')] at hi⟩
      have hz : ∀ k, (Array.replicate ops.size false).getD k false = false := fun k => by
        rcases Nat.lt_or_ge k ops.size with h' | h'
        · simp [h']
        · simp [Array.getElem?_eq_none (xs := Array.replicate ops.size false) (i := k) (by simpa using h')]
      have hpq := PQ_lex (C := Ext w) (deps := deps) (n := n) f4 f5 (ops.toList.take n) 0 (Array.replicate ops.size false) a hc0 (fun j hj => by omega) (by rw [hl]; omega) (fun j hj => by
        rw [hl] at hj
        simp [List.getElem?_take, hj]) (by rw [hl]; exact f6) hq
      rw [hl] at hpq
      have := wpAny_of_PQ (C := Ext w) (Q' := lift C Kn Ke Kr) (M := ops.size - n) f4 (fun listed a' w' hw' hc hl' hq' => by
        obtain ⟨st', hK, S'⟩ := hq' w' hw'
        refine wpAny_forced f4 (ops.size - n) n listed a' w' (Nat.le_refl _) (by omega) hc hl' ?_
        have := hK ops _ (Rn.text C ops (lift C Kn Ke Kr)) 0 n ops.size f2 [] a' w' S' (fun g hg => by cases hg) (fun st'' a'' w'' _ hK S'' _ => ⟨st'', hK, S''⟩)
        simpa using this) n _ a _ (Ext.drew w) hc0 (fun k _ => hz k) hpq
      rw [show n + (ops.size - n) = ops.size from by omega] at this
      exact this
    · cases hf
  · cases hf
theorem lit_dataC {C : Cx} {st : St} {a : Act} {w : World} {β : Names} (S : SatB C st a w β) {sz : Nat} {rows : List (List D)} {us : Array Value} {e : TypeId} {c : Nat} (hr : RowsR C.X β w sz rows us) (hl : us.size = c * sz) (hc : rows.length ≤ c) :
    DR { w with heap := w.heap.push (.cells us e) } (okf C.X β) (.sl sz rows) (.slice (some ⟨w.heap.size, 0, none⟩) rows.length c) := by
  let w' : World := { w with heap := w.heap.push (.cells us e) }
  have hs : w'.heap.size = w.heap.size + 1 := by simp [w']
  have hsame : ∀ b, b < w.heap.size → w'.heap[b]? = w.heap[b]? := fun b hb => by simp [w', Array.getElem?_push]; omega
  have hnew : okf C.X β w.heap.size := ⟨fun h => by have := S.xlt _ h; have := S.fr.size; omega, fun k hk => by have := S.hr.lt _ _ hk; omega⟩
  let X2 : Nat → Prop := fun b => C.X b ∨ ∃ k, β k = some b
  let β2 : Names := fun k => if k = 0 then some w.heap.size else none
  have K : Keep (okf C.X β) (okf X2 β2) w w' := ⟨by omega, fun b _ hb => hsame b hb, fun b ⟨p1, p2⟩ hb => ⟨fun h => h.elim p1 (fun ⟨k, hk⟩ => p2 k hk), fun k hk => by
    simp only [β2] at hk; split at hk
    · cases hk; omega
    · cases hk⟩⟩
  have H2 : HR X2 β2 [(0, .rows sz rows)] w' := {
    inj := fun k k' b p q => by
      simp only [β2] at p q
      split at p
      · split at q
        · omega
        · cases q
      · cases p
    lt := fun k b p => by
      simp only [β2] at p
      split at p
      · cases p; omega
      · cases p
    notX := fun k b p h => by
      simp only [β2] at p
      split at p
      · cases p; exact h.elim hnew.1 (fun ⟨k, hk⟩ => hnew.2 k hk)
      · cases p
    own := fun k ob hk => by
      rw [get_cons] at hk
      split at hk
      · rename_i h0; subst h0; cases hk
        exact ⟨us, e, (0, 0), heap_push_new, thaws_none _ _, by rw [hl]; exact Nat.mul_le_mul_right _ hc, hr.mono K⟩
      · simp [get] at hk }
  have hA : AR X2 β2 w' (.osl 0 sz 0 rows.length) (.slice (some ⟨w.heap.size, 0, none⟩) rows.length c) := by
    rw [AR]
    exact ⟨some ⟨w.heap.size, 0, none⟩, c, rfl, hc, .inr ⟨w.heap.size, us, e, (0, 0), rfl, by simp, heap_push_new, by simp [hl]⟩⟩
  have := osl_lend (ok' := okf C.X β) H2 (fun b ⟨p1, p2⟩ => ⟨fun h => p1 (.inl h), fun k hk => p1 (.inr ⟨k, hk⟩)⟩) (fun k b hk hb => by
    simp only [β2] at hb
    split at hb
    · cases hb; exact hnew
    · cases hb) (get_cons_self _ _ _) (show 0 + rows.length ≤ rows.length by omega) hA
  rw [List.drop_zero, List.take_length] at this
  exact this

section
variable {C : Cx} {sl : List (Nat × AV)} {own : List (Nat × OB)}
theorem e_appZD {d sz bytes z : Nat} {zs : List K} {x y : XA} {v : AV} {rows : List (List D)} (hx : evA sl x = some (.zs z))
    (hy : evA sl y = some v) (hsrc : SrcOK C ⟨sl, own⟩ sz v rows) (hb : (2 * rows.length + 256) * bytes ≤ 2 ^ 48) :
    EStep C ⟨sl, own⟩ (some d) (.app sz bytes zs x y) ⟨(d, .d (.sl sz rows)) :: sl, own⟩ := by
  intro o ho hd hf a w β S
  have hd := hd _ rfl
  obtain ⟨p, q, t, u, el, d2, hop, ht, hz, hby, hzero, hsz1, hb1, hu, hd2, hp, hq⟩ := app_fit hf
  have h1 := AR_of_fitA S hp hx
  have h2 := AR_of_fitA S hq hy
  obtain ⟨hn, vs, hvl, hvr, hfc, hones⟩ := hsrc a w β _ S h2
  rw [AR] at h1
  obtain ⟨base, h3⟩ := h1
  obtain ⟨ti, hti, htb⟩ := byIs_some hby
  have hres : ∀ (r : Value) (w' : World), (Builtin.append_ #[t, u] o.type #[a.eval p, a.eval q]).run C.P w = .ok r w' → (execOp a.eval o).run C.P w = .ok (.value r) w' := by
    intro r w' hr
    simp only [execOp, hop, resolve, List.map_toArray, List.map_cons, List.map_nil, Sem.run_bind, Sem.run_pure, Result.andThen_ok, invoke, builtin, hr]
  rw [h3] at hres
  by_cases hroom : rows.length = 0
  · have hrn : rows = [] := List.eq_nil_of_length_eq_zero hroom
    subst hrn
    have hvn : vs = [] := List.eq_nil_of_length_eq_zero (by rw [hvl]; simp)
    have hrun := append_fits (sLen := 0) (sCap := 0) (base := base) ht hz hu hd2 (hn w) (by have := hfc w (Ext.refl w) 0 (by simp); simpa [hvn] using this) (by simp) (w' := w) (vs := []) (by
      cases base with
      | none => rfl
      | some ad => rfl) o.type
    exact ⟨_, w, β, hres _ _ hrun, .inr ⟨_, rfl, S.put hd (by rw [AR, DR]; exact ⟨base, 0, rfl, Nat.le_refl _, .inl rfl⟩)⟩⟩
  · have ho' : ∀ w', Ext w w' → (Builtin.firstCells sz 0 (.slice base 0 0)).run C.P w' = .ok ([] : List Value).toArray w' := fun w' _ => by
      cases base with
      | none => simp [Builtin.firstCells]
      | some ad => simp [Builtin.firstCells, loadCells, loadCellsFrom]
    have hx' : ∀ w', Ext w w' → (Builtin.firstCells sz rows.length (a.eval q)).run C.P w' = .ok vs.toArray w' := fun w' hw' => by
      have := hfc w' hw' rows.length (Nat.le_refl _)
      rw [← hvl, List.take_length] at this
      exact this
    obtain ⟨z0, zv, hz1, hz2, hz3, hz4⟩ := zeroIs_some hzero
    rw [hti] at hz1; cases hz1
    have hbd : Builtin.nextslicecap (0 + rows.length) 0 * bytes ≤ 2 ^ 48 := Nat.le_trans (Nat.mul_le_mul_right _ (nextcap_le _ _ (by omega))) (by rw [Nat.zero_add]; exact hb)
    obtain ⟨newCap, w1, rest, c1, c2, c3, c4, c5⟩ := append_grows (sLen := 0) (sCap := 0) (base := base) ht hz hti htb hb1 hz2 hu hd2 (hn w) hx' ho' (by omega) hbd o.type
    refine ⟨_, _, β, hres _ _ c5, .inr ⟨_, rfl, ?_⟩⟩
    have S1 := S.ext c2
    have hw1 : w1.heap.size = w.heap.size := by rw [c3]
    obtain ⟨rl, hrl1, hrl2⟩ := zeroCells_toList zv.cells (newCap - (0 + rows.length))
    have hrest : old_rest [] vs rest = (vs ++ rl).toArray := by unfold old_rest; rw [c4, hrl1]; simp
    have hzc : zv.cells.size = sz := by
      have e1 := szIs_some hz w
      have e2 : (sizeOf el).run C.P w = .ok ti.size w := by simp [sizeOf, typeInfo, hti]
      rw [e2] at e1; simp at e1
      have := AL_len (fitZ_AL (X := C.X) (β := β) (w := w) hz3)
      simp at this
      omega
    have hsz2 : (vs ++ rl).length = newCap * sz := by
      simp only [List.length_append, hvl, hrl2, hzc]
      rw [← Nat.add_mul]
      congr 1; omega
    have hRR : RowsR C.X β w sz rows (vs ++ rl).toArray := RowsR_more hvr rl
    have hpush : ({ w1 with heap := w1.heap.push (.cells (([] : List Value).toArray ++ vs.toArray ++ rest) el) } : World) = { w1 with heap := w1.heap.push (.cells (vs ++ rl).toArray el) } := by
      have : ([] : List Value).toArray ++ vs.toArray ++ rest = (vs ++ rl).toArray := hrest
      rw [this]
    rw [hpush]
    have X : Ext w1 { w1 with heap := w1.heap.push (.cells (vs ++ rl).toArray el) } := ⟨rfl, rfl, rfl, by simp, fun b hb => by simp [Array.getElem?_push]; omega⟩
    refine (S1.ext X).put hd ?_
    rw [AR, Nat.zero_add]
    have q := lit_dataC (c := newCap) (e := el) S1 (hRR.mono ⟨c2.size, fun b _ hb => c2.same b hb, fun b hb _ => hb⟩) (by simp only [List.size_toArray, hsz2]) (by omega)
    rw [hw1] at q
    exact q
end
theorem loc_appZD {C : Cx} {slm : List (Nat × AV)} {ownm : List (Nat × OB)} {d sz bytes z : Nat} {zs : List K} {x y : XA} {v : AV} {rows rs : List (List D)} (hx : evA slm x = some (.zs z))
    (hy : evA slm y = some v) (hsrc : ∀ sl own, (∀ e ob, get ownm e = some ob → get own e = some ob) → SrcOK C ⟨sl, own⟩ sz v rows) (hb : (2 * rows.length + 256) * bytes ≤ 2 ^ 48) (hrs : rows = rs) : Loc C slm ownm (.op (some d) (.app sz bytes zs x y)) ⟨d, .d (.sl sz rs), []⟩ := by
  subst hrs
  intro sl own h1 h2 hf
  exact ax_e (e_appZD (evA_mono h1 hx) (evA_mono h1 hy) (hsrc sl own h2) hb) (ax_nil ⟨fun t y h => h, fun e ob h => h⟩)
end Go.AM

