/- A layer over the calls (plain data, own blocks, code, contracts) and plain laws about what the functions compute (part 2). -/
import Derived.Test.YtglpaaehiibfpaaDoorA1
import Derived.Lib.LaidTab
import Derived.Lib.ItoaNum
set_option linter.unusedVariables false
set_option linter.unusedSimpArgs false
namespace Go.AM
theorem stOK_p {s : GStmt} (h : stmtOK s = true) : (1 ≤ s.Kind ∧ s.Kind ≤ 4) ∧ (1 ≤ s.Table ∧ s.Table ≤ 3) ∧ (noneE s.Where = false → exprOK s.Where = true) ∧ (s.Kind = 2 → rowOK s.Row = true ∧ noneE s.Where = true) ∧
    (s.Kind = 3 → (1 ≤ s.Column ∧ s.Column ≤ 2) ∧ exprOK s.Set = true) ∧ (0 ≤ s.Order ∧ s.Order ≤ 2) ∧ (¬ s.Kind = 1 → s.Order = 0 ∧ s.Down = false) ∧ (s.Kind = 2 ∨ zeroR s.Row = true) ∧ (s.Kind = 3 ∨ (s.Column = 0 ∧ noneE s.Set = true)) := by
  unfold stmtOK at h
  have h0 : sBad0 s = false := by
    cases hh : sBad0 s with
    | false => rfl
    | true => rw [hh] at h; cases h
  rw [h0, cond_false] at h
  have h1 : sBad1 s = false := by
    cases hh : sBad1 s with
    | false => rfl
    | true => rw [hh] at h; cases h
  rw [h1, cond_false] at h
  unfold sBad0 at h0
  unfold sBad1 at h1
  simp only [Bool.or_eq_false_iff, Bool.and_eq_false_iff, Bool.not_eq_false'] at h0 h1
  obtain ⟨⟨a1, a2⟩, a3⟩ := h0
  have b1 := inR_iff.1 a1
  have b2 := inR_iff.1 a2
  have hT : sTail s = true ∧ (s.Kind = 3 → (1 ≤ s.Column ∧ s.Column ≤ 2) ∧ exprOK s.Set = true) ∧ (s.Kind = 3 ∨ (s.Column = 0 ∧ noneE s.Set = true)) := by
    by_cases hk : s.Kind = 3
    · rw [decide_eq_true hk, cond_true] at h
      have h3 : sBad3 s = false := by
        cases hh : sBad3 s with
        | false => rfl
        | true => rw [hh] at h; cases h
      rw [h3, cond_false] at h
      unfold sBad3 at h3
      simp only [Bool.or_eq_false_iff, Bool.not_eq_false'] at h3
      exact ⟨h, fun _ => ⟨inR_iff.1 h3.1, h3.2⟩, .inl hk⟩
    · rw [decide_eq_false hk, cond_false] at h
      have h3 : sBad4 s = false := by
        cases hh : sBad4 s with
        | false => rfl
        | true => rw [hh] at h; cases h
      rw [h3, cond_false] at h
      unfold sBad4 at h3
      simp only [Bool.or_eq_false_iff, Bool.not_eq_false', decide_eq_true_eq] at h3
      exact ⟨h, fun h => absurd h hk, .inr h3⟩
  obtain ⟨hT, hS, hN⟩ := hT
  have hO : (0 ≤ s.Order ∧ s.Order ≤ 2) ∧ (¬ s.Kind = 1 → s.Order = 0 ∧ s.Down = false) := by
    unfold sTail at hT
    by_cases hk : s.Kind = 1
    · rw [decide_eq_true hk] at hT
      exact ⟨inR_iff.1 hT, fun h => absurd hk h⟩
    · rw [decide_eq_false hk] at hT
      simp at hT
      exact ⟨by omega, fun _ => ⟨hT.1, hT.2⟩⟩
  refine ⟨b1, b2, ?_, ?_, hS, hO.1, hO.2, ?_, hN⟩
  · intro hn
    rcases a3 with a3 | ⟨_, a3⟩
    · rw [hn] at a3; cases a3
    · exact a3
  · intro hk
    refine ⟨?_, ?_⟩
    · rcases h1.2 with h1 | h1
      · rw [decide_eq_true hk] at h1; cases h1
      · exact h1
    · rcases a3 with a3 | ⟨a3, _⟩
      · exact a3
      · rw [decide_eq_true hk] at a3; cases a3
  · rcases h1.1 with h1 | h1
    · exact .inl (of_decide_eq_true h1)
    · exact .inr h1
def selL : List Str := [[], [115, 101, 108, 101, 99, 116], [105, 110, 115, 101, 114, 116], [117, 112, 100, 97, 116, 101], [100, 101, 108, 101, 116, 101]]
def selT (k : Int) : Str := selL.getD k.toNat []
theorem selT_at {c : Int} (h : 1 ≤ c ∧ c ≤ 4) : (selL.map strRow)[c.toNat]? = some (strRow (selT c)) := by
  rcases (by omega : c = 1 ∨ c = 2 ∨ c = 3 ∨ c = 4) with rfl | rfl | rfl | rfl <;> rfl
theorem selT_len {c : Int} (h : 1 ≤ c ∧ c ≤ 4) : (selT c).length ≤ 6 := by
  rcases (by omega : c = 1 ∨ c = 2 ∨ c = 3 ∨ c = 4) with rfl | rfl | rfl | rfl <;> decide
/-- A statement as a text: its parts behind one another. -/
def sxA (s : GStmt) : Str := (selT s.Kind ++ [32]) ++ Lib.itoa s.Table
def sxB (s : GStmt) (a : Str) : Str := if s.Kind = 2 then a ++ ((((([32] ++ Lib.itoa s.Row.Id) ++ [32]) ++ vtextF s.Row.N) ++ [32]) ++ vtextF s.Row.Name) else a
def sxC (s : GStmt) (a : Str) : Str := if s.Kind = 3 then a ++ ((([32, 115, 101, 116, 32] ++ colT s.Column) ++ [32, 61, 32]) ++ exT s.Set) else a
def sxW (s : GStmt) (a : Str) : Str := if noneE s.Where = false then a ++ ([32, 119, 104, 101, 114, 101, 32] ++ exT s.Where) else a
def sxO (s : GStmt) (a : Str) : Str := if ¬ s.Order = 0 ∨ s.Down = true then a ++ ([32, 111, 114, 100, 101, 114, 32] ++ colT s.Order) else a
def sxD (s : GStmt) (a : Str) : Str := if s.Down = true then a ++ [32, 100, 101, 115, 99] else a
def stT (s : GStmt) : Str := sxD s (sxO s (sxW s (sxC s (sxB s (sxA s)))))
section
variable {s : GStmt}
theorem sxB_t (h : s.Kind = 2) {a : Str} : sxB s a = a ++ ((((([32] ++ Lib.itoa s.Row.Id) ++ [32]) ++ vtextF s.Row.N) ++ [32]) ++ vtextF s.Row.Name) := if_pos h
theorem sxB_f (h : ¬ s.Kind = 2) {a : Str} : sxB s a = a := if_neg h
theorem sxC_t (h : s.Kind = 3) {a : Str} : sxC s a = a ++ ((([32, 115, 101, 116, 32] ++ colT s.Column) ++ [32, 61, 32]) ++ exT s.Set) := if_pos h
theorem sxC_f (h : ¬ s.Kind = 3) {a : Str} : sxC s a = a := if_neg h
theorem sxW_t (h : noneE s.Where = false) {a : Str} : sxW s a = a ++ ([32, 119, 104, 101, 114, 101, 32] ++ exT s.Where) := if_pos h
theorem sxW_f (h : noneE s.Where = true) {a : Str} : sxW s a = a := if_neg (by rw [h]; decide)
theorem sxO_t (h : ¬ s.Order = 0 ∨ s.Down = true) {a : Str} : sxO s a = a ++ ([32, 111, 114, 100, 101, 114, 32] ++ colT s.Order) := if_pos h
theorem sxO_f (h : s.Order = 0 ∧ s.Down = false) {a : Str} : sxO s a = a := if_neg (by rw [h.1, h.2]; simp)
theorem sxD_t (h : s.Down = true) {a : Str} : sxD s a = a ++ [32, 100, 101, 115, 99] := if_pos h
theorem sxD_f (h : s.Down = false) {a : Str} : sxD s a = a := if_neg (by rw [h]; decide)
theorem stT_1 (h : s.Kind = 1) : stT s = sxD s (sxO s (sxW s ([115, 101, 108, 101, 99, 116, 32] ++ vtextF (vI s.Table)))) := by
  unfold stT sxA
  rw [sxB_f (by omega), sxC_f (by omega), h, rtext_vI]; rfl
theorem stT_3 (h : s.Kind = 3) : stT s = sxD s (sxO s (sxW s (((((([117, 112, 100, 97, 116, 101, 32] ++ vtextF (vI s.Table)) ++ [32, 115, 101, 116, 32]) ++ colT s.Column) ++ [32, 61, 32]) ++ exT s.Set)))) := by
  unfold stT sxA
  rw [sxB_f (by omega), sxC_t (by omega), h, rtext_vI]
  congr 3
  simp only [List.append_assoc]; rfl
theorem stT_4 (h : s.Kind = 4) : stT s = sxD s (sxO s (sxW s ([100, 101, 108, 101, 116, 101, 32] ++ vtextF (vI s.Table)))) := by
  unfold stT sxA
  rw [sxB_f (by omega), sxC_f (by omega), h, rtext_vI]; rfl
theorem stT_2 (hs : stmtOK s = true) (h : s.Kind = 2) : stT s = ((([105, 110, 115, 101, 114, 116, 32] ++ vtextF (vI s.Table)) ++ [32]) ++ rtextF s.Row) := by
  obtain ⟨_, _, _, h2, _, _, h3, _⟩ := stOK_p hs
  have := h3 (by omega)
  unfold stT sxA
  rw [sxC_f (by omega), sxW_f (h2 h).2, sxO_f this, sxD_f this.2, sxB_t h, h, rtext_vI]
  unfold rtextF
  rw [rtext_vI]
  simp only [List.append_assoc]; rfl
end
theorem so_f {s : GStmt} (hk1 : ¬ s.Kind = 1 → s.Order = 0 ∧ s.Down = false) (hor : 0 ≤ s.Order ∧ s.Order ≤ 2) (h : ¬ s.Kind = 1 ∨ ¬ s.Order > 0 ∧ s.Down = false) : s.Order = 0 ∧ s.Down = false := by
  rcases h with h | h
  · exact hk1 h
  · exact ⟨by omega, h.2⟩
def stTF (s : GStmt) : Str × Int := if stmtOK s = true then (stT s, 0) else ([], 1)
theorem stT_t {s : GStmt} (h : stmtOK s = true) : stTF s = (stT s, 0) := by unfold stTF; rw [if_pos h]
theorem stT_f {s : GStmt} (h : stmtOK s = false) : stTF s = ([], 1) := by unfold stTF; rw [if_neg (by simp [h])]
end Go.AM

namespace Go.AM
theorem laidVars_mem {P : Program} {w : World} : ∀ {l : List (String × DataW Unit)} {ps : List MemPlace}, DataW.LaidVars P w l ps → ∀ {n : String} {d : DataW Unit}, (n, d) ∈ l →
    ∃ g t cs fuel p, P.globalNamed n = some g ∧ (P.globals[g]?).map (·.type) = some t ∧ w.var? P n = some cs ∧ DataW.trod (fun _ => ()) P w 0 (fun _ => true) false fuel t cs.toList = some (d, p)
  | [], _, _, _, _, hm => by cases hm
  | (n', d') :: r, ps, ⟨g, t, cs, fuel, p, q, h1, h2, h3, h4, h5, _⟩, n, d, hm => by
    rcases List.mem_cons.1 hm with e | hm
    · cases e; exact ⟨g, t, cs, fuel, p, h1, h2, h3, h4⟩
    · exact laidVars_mem h5 hm
theorem var_cells {P : Program} {w : World} {n : String} {g : Nat} {cs : Array Value} (hg : P.globalNamed n = some g) (h : w.var? P n = some cs) : ∃ ty fr, w.heap[g]? = some (.cells cs ty fr) := by
  unfold World.var? at h
  rw [hg] at h
  simp only [Option.bind_some] at h
  cases hh : w.heap[g]? with
  | none => rw [hh] at h; cases h
  | some o =>
    rw [hh] at h
    cases o with
    | cells c ty fr => cases h; exact ⟨ty, fr, rfl⟩
    | _ => cases h
theorem pow10_cells : (Lib.pow10Tab.map fun z => Value.int .u64 z).toArray = #[.int .u64 1, .int .u64 10, .int .u64 100, .int .u64 1000, .int .u64 10000, .int .u64 100000, .int .u64 1000000, .int .u64 10000000, .int .u64 100000000, .int .u64 1000000000, .int .u64 10000000000, .int .u64 100000000000, .int .u64 1000000000000, .int .u64 10000000000000, .int .u64 100000000000000, .int .u64 1000000000000000, .int .u64 10000000000000000, .int .u64 100000000000000000, .int .u64 1000000000000000000, .int .u64 10000000000000000000] := by
  rfl
/-- One table reads as laid. -/
def TabOK (P : Program) (W : World) (n : String) (cs : Array Value) : Prop := ∀ g, P.globalNamed n = some g → ∃ ty fr, W.heap[g]? = some (.cells cs ty fr)
theorem tab_pow {P : Program} {W : World} {l : List (String × DataW Unit)} {g t e : Nat} (hm : ("internal/strconv.uint64pow10", Lib.tabData .u64 Lib.pow10Tab) ∈ l) (hg : P.globalNamed "internal/strconv.uint64pow10" = some g) (hty : (P.globals[g]?).map (·.type) = some t)
    (ht : P.underlying t = some (.array 20 e)) (he : P.underlying e = some (.int .u64)) (hce : P.cellsOf e = 1) (hct : P.cellsOf t = 20) (h : laidMet P l W) : TabOK P W "internal/strconv.uint64pow10" #[.int .u64 1, .int .u64 10, .int .u64 100, .int .u64 1000, .int .u64 10000, .int .u64 100000, .int .u64 1000000, .int .u64 10000000, .int .u64 100000000, .int .u64 1000000000, .int .u64 10000000000, .int .u64 100000000000, .int .u64 1000000000000, .int .u64 10000000000000, .int .u64 100000000000000, .int .u64 1000000000000000, .int .u64 10000000000000000, .int .u64 100000000000000000, .int .u64 1000000000000000000, .int .u64 10000000000000000000] := by
  obtain ⟨ps, hl, _⟩ := h
  obtain ⟨g', t', cs, fuel, p, hg', hty', hv, hd⟩ := laidVars_mem hl hm
  obtain rfl := Option.some.inj (hg.symm.trans hg')
  obtain rfl := Option.some.inj (hty.symm.trans hty')
  have hc := Lib.cells_of_tab ht he hce hct hd
  have hc2 : cs = (Lib.pow10Tab.map fun z => Value.int .u64 z).toArray := by rw [← hc]
  obtain ⟨ty, fr, hh⟩ := var_cells hg hv
  intro g2 hg2
  obtain rfl := Option.some.inj (hg.symm.trans hg2)
  exact ⟨ty, fr, by rw [hh, hc2, pow10_cells]⟩
theorem cells_of_strs {H : Type} {enc : TypeId × Value → H} {P : Program} {w : World} {base : Nat} {sp : Nat → Bool} {held : Bool} {fuel : Nat} {t e : TypeId} {n : Nat} {cs : List Value} {zs : List Str} {p : List MemPlace}
    (ht : P.underlying t = some (.array n e)) (he : P.underlying e = some .string) (hce : P.cellsOf e = 1) (hct : P.cellsOf t = n)
    (h : DataW.trod enc P w base sp held fuel t cs = some (.agg (zs.map fun z => .lit (.string z)), p)) : cs = zs.map fun z => Value.string ⟨z.toArray⟩ := by
  cases fuel with
  | zero => simp [DataW.trod] at h
  | succ fuel =>
    simp only [DataW.trod, ht, hce, hct, Nat.mul_one] at h
    split at h
    · rename_i hl
      obtain ⟨xs, hm, hx⟩ := Option.map_eq_some_iff.1 h
      have hxs : xs.map (·.1) = zs.map fun z => (DataW.lit (.string z) : DataW H) := by
        have := congrArg Prod.fst hx
        simpa using this
      have hxl : xs.length = n := by simpa using Lib.mapM_length hm
      have hzl : zs.length = n := by
        have := congrArg List.length hxs
        simp at this
        omega
      apply List.ext_getElem?
      intro i
      by_cases hi : i < n
      · obtain ⟨b, hb, hf⟩ := Lib.mapM_at hm i i (by simp [hi])
        obtain ⟨z, hc, rfl, _⟩ := DataW.trod_string he hf
        have h1 : cs[i]? = some (.string z) := by
          have := congrArg (·[0]?) hc
          simpa [List.getElem?_take, List.getElem?_drop] using this
        have h2 : (xs.map (·.1))[i]? = some (DataW.lit (.string z.data.toList) : DataW H) := by simp [hb]
        rw [hxs] at h2
        simp only [List.getElem?_map, Option.map_eq_some_iff, DataW.lit.injEq, Lit.string.injEq] at h2
        obtain ⟨z', hz', rfl⟩ := h2
        rw [h1]
        simp [hz']
      · rw [List.getElem?_eq_none (by omega), List.getElem?_eq_none (by simp; omega)]
    · cases h
theorem tab_strs {P : Program} {W : World} {l : List (String × DataW Unit)} {nm : String} {zs : List Str} {g t e n : Nat} (hm : (nm, .agg (zs.map fun z => .lit (.string z))) ∈ l) (hg : P.globalNamed nm = some g) (hty : (P.globals[g]?).map (·.type) = some t)
    (ht : P.underlying t = some (.array n e)) (he : P.underlying e = some .string) (hce : P.cellsOf e = 1) (hct : P.cellsOf t = n) (h : laidMet P l W) : TabOK P W nm (zs.map fun z => Value.string ⟨z.toArray⟩).toArray := by
  obtain ⟨ps, hl, _⟩ := h
  obtain ⟨g', t', cs, fuel, p, hg', hty', hv, hd⟩ := laidVars_mem hl hm
  obtain rfl := Option.some.inj (hg.symm.trans hg')
  obtain rfl := Option.some.inj (hty.symm.trans hty')
  have hc := cells_of_strs ht he hce hct hd
  obtain ⟨ty, fr, hh⟩ := var_cells hg hv
  intro g2 hg2
  obtain rfl := Option.some.inj (hg.symm.trans hg2)
  exact ⟨ty, fr, by rw [hh, ← hc]⟩
theorem gok_three {P : Program} {W : World} (h1 : TabOK P W "internal/strconv.uint64pow10" #[.int .u64 1, .int .u64 10, .int .u64 100, .int .u64 1000, .int .u64 10000, .int .u64 100000, .int .u64 1000000, .int .u64 10000000, .int .u64 100000000, .int .u64 1000000000, .int .u64 10000000000, .int .u64 100000000000, .int .u64 1000000000000, .int .u64 10000000000000, .int .u64 100000000000000, .int .u64 1000000000000000, .int .u64 10000000000000000, .int .u64 100000000000000000, .int .u64 1000000000000000000, .int .u64 10000000000000000000])
    (h2 : TabOK P W "loop.example/g00332/impl.columnWords" #[.string ⟨#[105, 100]⟩, .string ⟨#[110]⟩, .string ⟨#[110, 97, 109, 101]⟩])
    (h3 : TabOK P W "loop.example/g00332/impl.binarySigns" #[.string ⟨#[43]⟩, .string ⟨#[45]⟩, .string ⟨#[42]⟩, .string ⟨#[47]⟩, .string ⟨#[61]⟩, .string ⟨#[60]⟩, .string ⟨#[97, 110, 100]⟩, .string ⟨#[111, 114]⟩]) : GOK P (fun _ => False) noN W := by
  intro q hq g2 hg2
  refine ⟨fun h => h, fun e h => (by cases h), ?_⟩
  simp only [gtab, List.mem_cons, List.not_mem_nil, or_false] at hq
  rcases hq with rfl | rfl | rfl
  · exact h1 g2 hg2
  · exact h2 g2 hg2
  · exact h3 g2 hg2
end Go.AM

namespace Go.AM
open Go.ChangeShapes Go.RowKit
section
variable {H : Type} {enc : TypeId × Value → H} {P : Program} {Ts : List TypeId} {w : World}
def varOK (P : Program) (n : String) : Bool :=
  match P.globalNamed n with
  | some g => match (P.globals[g]?).map (·.type) with
    | some t => P.readableRec t && Nat.ble (t + 1) P.types.size
    | none => false
  | none => false
theorem again_vars {W W' : World} (hl : laidOutB P = true) (hb : Below W.heap.size W W') {sp : Nat → Bool} : ∀ {ns : List String} {ds : List (DataW H)} {ps : List MemPlace}, ns.all (varOK P) = true →
    DataW.TrodVars enc P W (fun _ => true) ns ds ps → (∀ x ∈ ps, x.block < W.heap.size) → (∀ x ∈ ps, sp x.block = true) → DataW.TrodVars enc P W' sp ns ds ps
  | [], [], ps, _, h, _, _ => h
  | [], _ :: _, _, _, h, _, _ => h.elim
  | _ :: _, [], _, _, h, _, _ => h.elim
  | n :: ns, d :: ds, ps, hin, h, hlt, hsp => by
    obtain ⟨g, t, cs, fuel, p, q, h1, h2, h3, h4, h5, rfl⟩ := h
    rw [List.all_cons, Bool.and_eq_true] at hin
    have hv := hin.1
    unfold varOK at hv
    rw [h1] at hv
    simp only [h2, Bool.and_eq_true] at hv
    obtain ⟨ty, fr, hh⟩ := var_cells h1 h3
    have hgl : g < W.heap.size := (Array.getElem?_eq_some_iff.1 hh).1
    have hh' : W'.heap[g]? = some (.cells cs ty fr) := by rw [hb.block g hgl]; exact hh
    have hv' : W'.var? P n = some cs := by
      unfold World.var?
      rw [h1]
      show (match W'.heap[g]? with
        | some (.cells cs _ _) => some cs
        | _ => none) = _
      rw [hh']
    have hlt' : ∀ x ∈ p, x.block < W.heap.size := fun x hx => hlt x (List.mem_append_left _ (List.mem_append_right _ hx))
    have hsp' : ∀ x ∈ p, sp x.block = true := fun x hx => hsp x (List.mem_append_left _ (List.mem_append_right _ hx))
    have hT : DataW.Trod enc P W' 0 sp true t (.agg cs) d p := WideElems.Trod_stays (v := .agg cs) hl hv.1 (Nat.le_of_ble_eq_true hv.2) ⟨fuel, h4⟩ (fun x hx => hb.same (hlt' x hx)) hsp'
    obtain ⟨fuel', h4'⟩ := hT
    exact ⟨g, t, cs, fuel', p, q, h1, h2, hv', h4', again_vars hl hb hin.2 h5 (fun x hx => hlt x (List.mem_append_right _ hx)) (fun x hx => hsp x (List.mem_append_right _ hx)), rfl⟩
theorem trodVars_len {sp : Nat → Bool} : ∀ {ns : List String} {ds : List (DataW H)} {ps : List MemPlace}, DataW.TrodVars enc P w sp ns ds ps → ds.length = ns.length
  | [], [], _, _ => rfl
  | [], _ :: _, _, h => h.elim
  | _ :: _, [], _, h => h.elim
  | n :: ns, d :: ds, ps, h => by
    obtain ⟨g, t, cs, fuel, p, q, h1, h2, h3, h4, h5, rfl⟩ := h
    simp [trodVars_len h5]
theorem law_postV {f : Func} {s : ChangeSpec} {W W' : World} {args : Array Value} {ds gs : List (DataW H)} {before : List MemPlace} {tb : TypeId} (hl : laidOutB P = true) (hty : typesOK P Ts f.params.toList = true) (hvar : s.vars.all (varOK P) = true)
    (hrt : f.resultTypes = #[tb]) (hb : P.underlying tb = some .bool) (hs : s.fn H (ds ++ gs) = { results := [.lit (.bool true)], args := ds, vars := gs })
    (hW : DataW.Whole enc P f.params.toList s.vars false W args.toList ds gs before) (hg : Below W.heap.size W W') : s.post enc P f false true false false W args (.bool true) W' := by
  have hlt := hW.lt
  have hW' := hW
  obtain ⟨p, q, hA, hV, hpq, hz, hn⟩ := hW
  subst hpq
  have hin : ∀ t ∈ f.params.toList, P.readableRec t = true ∧ t < P.types.size := fun t ht => by
    have := List.all_eq_true.1 hty t ht
    simp only [Bool.and_eq_true] at this
    have h1 := Nat.le_of_ble_eq_true this.2
    exact ⟨this.1.2, h1⟩
  have hltp : ∀ x ∈ p, x.block < W.heap.size := fun x hx => hlt x (List.mem_append_left _ hx)
  have hltq : ∀ x ∈ q, x.block < W.heap.size := fun x hx => hlt x (List.mem_append_right _ hx)
  have hargs : ∀ sp : Nat → Bool, (∀ x ∈ p, sp x.block = true) → DataW.TrodAll enc P W' 0 sp true f.params.toList args.toList ds p := fun sp hsp => again_trod hl hg hin hA hltp hsp
  have hvars : ∀ sp : Nat → Bool, (∀ x ∈ q, sp x.block = true) → DataW.TrodVars enc P W' sp s.vars gs q := fun sp hsp => again_vars hl hg hvar hV hltq hsp
  have hres : ∀ (b : Nat) (sp : Nat → Bool) (hd : Bool), DataW.TrodAll enc P W' b sp hd f.resultTypes.toList ((Value.bool true).resultList f.resultTypes.size) [.lit (.bool true)] [] := fun b sp hd => by
    rw [hrt]
    exact trodAll_cons_mk (shut_bool hb true) trodAll_mk0
  have oldp : ∀ x ∈ p, (fun b => decide (b < W.heap.size)) x.block = true := fun x hx => by simpa using hltp x hx
  have oldq : ∀ x ∈ q, (fun b => decide (b < W.heap.size)) x.block = true := fun x hx => by simpa using hltq x hx
  have hargs2 : ∀ sp : Nat → Bool, (∀ x ∈ p, sp x.block = true) → DataW.TrodAll enc P W' 0 sp true f.params.toList args.toList (s.fn H (ds ++ gs)).args p := by rw [hs]; exact hargs
  have hres2 : ∀ (b : Nat) (sp : Nat → Bool) (hd : Bool), DataW.TrodAll enc P W' b sp hd f.resultTypes.toList ((Value.bool true).resultList f.resultTypes.size) (s.fn H (ds ++ gs)).results [] := by rw [hs]; exact hres
  have hvars2 : ∀ sp : Nat → Bool, (∀ x ∈ q, sp x.block = true) → DataW.TrodVars enc P W' sp s.vars (s.fn H (ds ++ gs)).vars q := by rw [hs]; exact hvars
  refine ⟨ds, gs, p ++ q, [], p, q, hW', hres2 _ _ _, hargs2 _ oldp, hvars2 _ oldq, World.keptBut_mono (fun x hx => ⟨hx, .inr (List.mem_append.1 hx)⟩) (hg.frame (· ∈ p ++ q)), fun _ => ?_⟩
  refine ⟨ok_one hrt rfl (okWide_bool_mk hb true), _, _, ([] ++ p) ++ q, ⟨[] ++ p, q, trodAll_append (hargs2 _ (fun _ _ => rfl)) (hres2 _ _ _), hvars2 _ (fun _ _ => rfl), rfl, ?_, ?_⟩, ?_⟩
  · intro b off hp
    have hp' : MemPlace.cell b off ∈ p ++ q := by simpa using hp
    have hbl := hlt _ hp'
    rw [hg.frozen (p := ⟨b, off, none⟩) hbl]
    exact hz b off hp'
  · intro h; cases h
  · intro x hx _
    simpa using hx
theorem law_contractV {f : FuncId} {fn : Func} {s : ChangeSpec} {tb : TypeId} (hT : closedT P Ts = true) (hl : laidOutB P = true) (hty : typesOK P Ts fn.params.toList = true) (hvar : s.vars.all (varOK P) = true) (hrt : fn.resultTypes = #[tb]) (hb : P.underlying tb = some .bool)
    (hcon : ∀ rows, HasAll P fn.params.toList rows → Con P noMv f (argsAV P fn.params.toList rows) [] (fun r h => r = bool true ∧ h = []))
    {W : World} {base : Nat} {args : Array Value} {ds gs : List (DataW H)} {before : List MemPlace} (hs : ds.length = fn.params.toList.length → gs.length = s.vars.length → s.fn H (ds ++ gs) = { results := [.lit (.bool true)], args := ds, vars := gs })
    (hval : ∀ (j : Nat) t v, fn.params[j]? = some t → args[j]? = some v → Value.okWide P W .any base t v)
    (hW : DataW.Whole enc P fn.params.toList s.vars false W args.toList ds gs before) (hgl : GOK P (fun _ => False) noN W) :
    Calls P f args W fun e W' => ∃ v, e = .returned v ∧ s.post enc P fn false true false false W args v W' := by
  have hW' := hW
  obtain ⟨p, q, hA, hV, hpq, hz, hn⟩ := hW
  obtain ⟨h1, rows, h2, h3⟩ := args_AR hT (fun t ht => by
    have := List.all_eq_true.1 hty t ht
    simp only [Bool.and_eq_true] at this
    exact membN_iff.1 this.1.1) (fun j t v hj hv => hval j t v (by simpa using hj) (by simpa using hv)) hA
  have h4 := hcon rows h2 (fun _ => False) noN W args.toList (fun _ h => h.elim) (fun e b h => by cases h) ⟨fun e e' b h => (by cases h), fun e b h => (by cases h), fun e b h => (by cases h), fun e ob h => (by simp [get] at h)⟩ h3 hgl
  refine h4.mono ?_
  rintro e W' ⟨v, r, h', β', rfl, ⟨rfl, rfl⟩, hr, _, F, _⟩
  rw [AR, DR] at hr
  subst hr
  exact ⟨_, rfl, law_postV hl hty hvar hrt hb (hs h1 (trodVars_len hV)) hW' ⟨F.os, F.tape, F.output, F.size, fun b hb' => F.same b hb' (fun e h => by cases h)⟩⟩
end
end Go.AM
