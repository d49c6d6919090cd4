/- A layer over the calls (plain data, own blocks, code, contracts) and plain laws about what the functions compute (part 2). -/
import Derived.Test.YtglpaaehiibfpaaDoorA1
import Derived.Lib.LaidTab
import Derived.Lib.ItoaNum
set_option linter.unusedVariables false
set_option linter.unusedSimpArgs false
namespace Go.AM
theorem laidVars_mem {P : Program} {w : World} : ∀ {l : List (String × DataW Unit)} {ps : List MemPlace}, DataW.LaidVars P w l ps → ∀ {n : String} {d : DataW Unit}, (n, d) ∈ l →
    ∃ g t cs fuel p, P.globalNamed n = some g ∧ (P.globals[g]?).map (·.type) = some t ∧ w.var? P n = some cs ∧ DataW.trod (fun _ => ()) P w 0 (fun _ => true) false fuel t cs.toList = some (d, p)
  | [], _, _, _, _, hm => by cases hm
  | (n', d') :: r, ps, ⟨g, t, cs, fuel, p, q, h1, h2, h3, h4, h5, _⟩, n, d, hm => by
    rcases List.mem_cons.1 hm with e | hm
    · cases e; exact ⟨g, t, cs, fuel, p, h1, h2, h3, h4⟩
    · exact laidVars_mem h5 hm
theorem var_cells {P : Program} {w : World} {n : String} {g : Nat} {cs : Array Value} (hg : P.globalNamed n = some g) (h : w.var? P n = some cs) : ∃ ty fr, w.heap[g]? = some (.cells cs ty fr) := by
  unfold World.var? at h
  rw [hg] at h
  simp only [Option.bind_some] at h
  cases hh : w.heap[g]? with
  | none => rw [hh] at h; cases h
  | some o =>
    rw [hh] at h
    cases o with
    | cells c ty fr => cases h; exact ⟨ty, fr, rfl⟩
    | _ => cases h
theorem pow10_cells : (Lib.pow10Tab.map fun z => Value.int .u64 z).toArray = #[.int .u64 1, .int .u64 10, .int .u64 100, .int .u64 1000, .int .u64 10000, .int .u64 100000, .int .u64 1000000, .int .u64 10000000, .int .u64 100000000, .int .u64 1000000000, .int .u64 10000000000, .int .u64 100000000000, .int .u64 1000000000000, .int .u64 10000000000000, .int .u64 100000000000000, .int .u64 1000000000000000, .int .u64 10000000000000000, .int .u64 100000000000000000, .int .u64 1000000000000000000, .int .u64 10000000000000000000] := by
  rfl
/-- One table reads as laid. -/
def TabOK (P : Program) (W : World) (n : String) (cs : Array Value) : Prop := ∀ g, P.globalNamed n = some g → ∃ ty fr, W.heap[g]? = some (.cells cs ty fr)
theorem tab_pow {P : Program} {W : World} {l : List (String × DataW Unit)} {g t e : Nat} (hm : ("internal/strconv.uint64pow10", Lib.tabData .u64 Lib.pow10Tab) ∈ l) (hg : P.globalNamed "internal/strconv.uint64pow10" = some g) (hty : (P.globals[g]?).map (·.type) = some t)
    (ht : P.underlying t = some (.array 20 e)) (he : P.underlying e = some (.int .u64)) (hce : P.cellsOf e = 1) (hct : P.cellsOf t = 20) (h : laidMet P l W) : TabOK P W "internal/strconv.uint64pow10" #[.int .u64 1, .int .u64 10, .int .u64 100, .int .u64 1000, .int .u64 10000, .int .u64 100000, .int .u64 1000000, .int .u64 10000000, .int .u64 100000000, .int .u64 1000000000, .int .u64 10000000000, .int .u64 100000000000, .int .u64 1000000000000, .int .u64 10000000000000, .int .u64 100000000000000, .int .u64 1000000000000000, .int .u64 10000000000000000, .int .u64 100000000000000000, .int .u64 1000000000000000000, .int .u64 10000000000000000000] := by
  obtain ⟨ps, hl, _⟩ := h
  obtain ⟨g', t', cs, fuel, p, hg', hty', hv, hd⟩ := laidVars_mem hl hm
  obtain rfl := Option.some.inj (hg.symm.trans hg')
  obtain rfl := Option.some.inj (hty.symm.trans hty')
  have hc := Lib.cells_of_tab ht he hce hct hd
  have hc2 : cs = (Lib.pow10Tab.map fun z => Value.int .u64 z).toArray := by rw [← hc]
  obtain ⟨ty, fr, hh⟩ := var_cells hg hv
  intro g2 hg2
  obtain rfl := Option.some.inj (hg.symm.trans hg2)
  exact ⟨ty, fr, by rw [hh, hc2, pow10_cells]⟩
theorem cells_of_strs {H : Type} {enc : TypeId × Value → H} {P : Program} {w : World} {base : Nat} {sp : Nat → Bool} {held : Bool} {fuel : Nat} {t e : TypeId} {n : Nat} {cs : List Value} {zs : List Str} {p : List MemPlace}
    (ht : P.underlying t = some (.array n e)) (he : P.underlying e = some .string) (hce : P.cellsOf e = 1) (hct : P.cellsOf t = n)
    (h : DataW.trod enc P w base sp held fuel t cs = some (.agg (zs.map fun z => .lit (.string z)), p)) : cs = zs.map fun z => Value.string ⟨z.toArray⟩ := by
  cases fuel with
  | zero => simp [DataW.trod] at h
  | succ fuel =>
    simp only [DataW.trod, ht, hce, hct, Nat.mul_one] at h
    split at h
    · rename_i hl
      obtain ⟨xs, hm, hx⟩ := Option.map_eq_some_iff.1 h
      have hxs : xs.map (·.1) = zs.map fun z => (DataW.lit (.string z) : DataW H) := by
        have := congrArg Prod.fst hx
        simpa using this
      have hxl : xs.length = n := by simpa using Lib.mapM_length hm
      have hzl : zs.length = n := by
        have := congrArg List.length hxs
        simp at this
        omega
      apply List.ext_getElem?
      intro i
      by_cases hi : i < n
      · obtain ⟨b, hb, hf⟩ := Lib.mapM_at hm i i (by simp [hi])
        obtain ⟨z, hc, rfl, _⟩ := DataW.trod_string he hf
        have h1 : cs[i]? = some (.string z) := by
          have := congrArg (·[0]?) hc
          simpa [List.getElem?_take, List.getElem?_drop] using this
        have h2 : (xs.map (·.1))[i]? = some (DataW.lit (.string z.data.toList) : DataW H) := by simp [hb]
        rw [hxs] at h2
        simp only [List.getElem?_map, Option.map_eq_some_iff, DataW.lit.injEq, Lit.string.injEq] at h2
        obtain ⟨z', hz', rfl⟩ := h2
        rw [h1]
        simp [hz']
      · rw [List.getElem?_eq_none (by omega), List.getElem?_eq_none (by simp; omega)]
    · cases h
theorem tab_strs {P : Program} {W : World} {l : List (String × DataW Unit)} {nm : String} {zs : List Str} {g t e n : Nat} (hm : (nm, .agg (zs.map fun z => .lit (.string z))) ∈ l) (hg : P.globalNamed nm = some g) (hty : (P.globals[g]?).map (·.type) = some t)
    (ht : P.underlying t = some (.array n e)) (he : P.underlying e = some .string) (hce : P.cellsOf e = 1) (hct : P.cellsOf t = n) (h : laidMet P l W) : TabOK P W nm (zs.map fun z => Value.string ⟨z.toArray⟩).toArray := by
  obtain ⟨ps, hl, _⟩ := h
  obtain ⟨g', t', cs, fuel, p, hg', hty', hv, hd⟩ := laidVars_mem hl hm
  obtain rfl := Option.some.inj (hg.symm.trans hg')
  obtain rfl := Option.some.inj (hty.symm.trans hty')
  have hc := cells_of_strs ht he hce hct hd
  obtain ⟨ty, fr, hh⟩ := var_cells hg hv
  intro g2 hg2
  obtain rfl := Option.some.inj (hg.symm.trans hg2)
  exact ⟨ty, fr, by rw [hh, ← hc]⟩
theorem gok_three {P : Program} {W : World} (h1 : TabOK P W "internal/strconv.uint64pow10" #[.int .u64 1, .int .u64 10, .int .u64 100, .int .u64 1000, .int .u64 10000, .int .u64 100000, .int .u64 1000000, .int .u64 10000000, .int .u64 100000000, .int .u64 1000000000, .int .u64 10000000000, .int .u64 100000000000, .int .u64 1000000000000, .int .u64 10000000000000, .int .u64 100000000000000, .int .u64 1000000000000000, .int .u64 10000000000000000, .int .u64 100000000000000000, .int .u64 1000000000000000000, .int .u64 10000000000000000000])
    (h2 : TabOK P W "loop.example/g00332/impl.columnWords" #[.string ⟨#[105, 100]⟩, .string ⟨#[110]⟩, .string ⟨#[110, 97, 109, 101]⟩])
    (h3 : TabOK P W "loop.example/g00332/impl.binarySigns" #[.string ⟨#[43]⟩, .string ⟨#[45]⟩, .string ⟨#[42]⟩, .string ⟨#[47]⟩, .string ⟨#[61]⟩, .string ⟨#[60]⟩, .string ⟨#[97, 110, 100]⟩, .string ⟨#[111, 114]⟩]) : GOK P (fun _ => False) noN W := by
  intro q hq g2 hg2
  refine ⟨fun h => h, fun e h => (by cases h), ?_⟩
  simp only [gtab, List.mem_cons, List.not_mem_nil, or_false] at hq
  rcases hq with rfl | rfl | rfl
  · exact h1 g2 hg2
  · exact h2 g2 hg2
  · exact h3 g2 hg2
end Go.AM

namespace Go.AM
open Go.ChangeShapes Go.RowKit
section
variable {H : Type} {enc : TypeId × Value → H} {P : Program} {Ts : List TypeId} {w : World}
def varOK (P : Program) (n : String) : Bool :=
  match P.globalNamed n with
  | some g => match (P.globals[g]?).map (·.type) with
    | some t => P.readableRec t && Nat.ble (t + 1) P.types.size
    | none => false
  | none => false
theorem again_vars {W W' : World} (hl : laidOutB P = true) (hb : Below W.heap.size W W') {sp : Nat → Bool} : ∀ {ns : List String} {ds : List (DataW H)} {ps : List MemPlace}, ns.all (varOK P) = true →
    DataW.TrodVars enc P W (fun _ => true) ns ds ps → (∀ x ∈ ps, x.block < W.heap.size) → (∀ x ∈ ps, sp x.block = true) → DataW.TrodVars enc P W' sp ns ds ps
  | [], [], ps, _, h, _, _ => h
  | [], _ :: _, _, _, h, _, _ => h.elim
  | _ :: _, [], _, _, h, _, _ => h.elim
  | n :: ns, d :: ds, ps, hin, h, hlt, hsp => by
    obtain ⟨g, t, cs, fuel, p, q, h1, h2, h3, h4, h5, rfl⟩ := h
    rw [List.all_cons, Bool.and_eq_true] at hin
    have hv := hin.1
    unfold varOK at hv
    rw [h1] at hv
    simp only [h2, Bool.and_eq_true] at hv
    obtain ⟨ty, fr, hh⟩ := var_cells h1 h3
    have hgl : g < W.heap.size := (Array.getElem?_eq_some_iff.1 hh).1
    have hh' : W'.heap[g]? = some (.cells cs ty fr) := by rw [hb.block g hgl]; exact hh
    have hv' : W'.var? P n = some cs := by
      unfold World.var?
      rw [h1]
      show (match W'.heap[g]? with
        | some (.cells cs _ _) => some cs
        | _ => none) = _
      rw [hh']
    have hlt' : ∀ x ∈ p, x.block < W.heap.size := fun x hx => hlt x (List.mem_append_left _ (List.mem_append_right _ hx))
    have hsp' : ∀ x ∈ p, sp x.block = true := fun x hx => hsp x (List.mem_append_left _ (List.mem_append_right _ hx))
    have hT : DataW.Trod enc P W' 0 sp true t (.agg cs) d p := WideElems.Trod_stays (v := .agg cs) hl hv.1 (Nat.le_of_ble_eq_true hv.2) ⟨fuel, h4⟩ (fun x hx => hb.same (hlt' x hx)) hsp'
    obtain ⟨fuel', h4'⟩ := hT
    exact ⟨g, t, cs, fuel', p, q, h1, h2, hv', h4', again_vars hl hb hin.2 h5 (fun x hx => hlt x (List.mem_append_right _ hx)) (fun x hx => hsp x (List.mem_append_right _ hx)), rfl⟩
theorem trodVars_len {sp : Nat → Bool} : ∀ {ns : List String} {ds : List (DataW H)} {ps : List MemPlace}, DataW.TrodVars enc P w sp ns ds ps → ds.length = ns.length
  | [], [], _, _ => rfl
  | [], _ :: _, _, h => h.elim
  | _ :: _, [], _, h => h.elim
  | n :: ns, d :: ds, ps, h => by
    obtain ⟨g, t, cs, fuel, p, q, h1, h2, h3, h4, h5, rfl⟩ := h
    simp [trodVars_len h5]
theorem law_postV {f : Func} {s : ChangeSpec} {W W' : World} {args : Array Value} {ds gs : List (DataW H)} {before : List MemPlace} {tb : TypeId} (hl : laidOutB P = true) (hty : typesOK P Ts f.params.toList = true) (hvar : s.vars.all (varOK P) = true)
    (hrt : f.resultTypes = #[tb]) (hb : P.underlying tb = some .bool) (hs : s.fn H (ds ++ gs) = { results := [.lit (.bool true)], args := ds, vars := gs })
    (hW : DataW.Whole enc P f.params.toList s.vars false W args.toList ds gs before) (hg : Below W.heap.size W W') : s.post enc P f false true false false W args (.bool true) W' := by
  have hlt := hW.lt
  have hW' := hW
  obtain ⟨p, q, hA, hV, hpq, hz, hn⟩ := hW
  subst hpq
  have hin : ∀ t ∈ f.params.toList, P.readableRec t = true ∧ t < P.types.size := fun t ht => by
    have := List.all_eq_true.1 hty t ht
    simp only [Bool.and_eq_true] at this
    have h1 := Nat.le_of_ble_eq_true this.2
    exact ⟨this.1.2, h1⟩
  have hltp : ∀ x ∈ p, x.block < W.heap.size := fun x hx => hlt x (List.mem_append_left _ hx)
  have hltq : ∀ x ∈ q, x.block < W.heap.size := fun x hx => hlt x (List.mem_append_right _ hx)
  have hargs : ∀ sp : Nat → Bool, (∀ x ∈ p, sp x.block = true) → DataW.TrodAll enc P W' 0 sp true f.params.toList args.toList ds p := fun sp hsp => again_trod hl hg hin hA hltp hsp
  have hvars : ∀ sp : Nat → Bool, (∀ x ∈ q, sp x.block = true) → DataW.TrodVars enc P W' sp s.vars gs q := fun sp hsp => again_vars hl hg hvar hV hltq hsp
  have hres : ∀ (b : Nat) (sp : Nat → Bool) (hd : Bool), DataW.TrodAll enc P W' b sp hd f.resultTypes.toList ((Value.bool true).resultList f.resultTypes.size) [.lit (.bool true)] [] := fun b sp hd => by
    rw [hrt]
    exact trodAll_cons_mk (shut_bool hb true) trodAll_mk0
  have oldp : ∀ x ∈ p, (fun b => decide (b < W.heap.size)) x.block = true := fun x hx => by simpa using hltp x hx
  have oldq : ∀ x ∈ q, (fun b => decide (b < W.heap.size)) x.block = true := fun x hx => by simpa using hltq x hx
  have hargs2 : ∀ sp : Nat → Bool, (∀ x ∈ p, sp x.block = true) → DataW.TrodAll enc P W' 0 sp true f.params.toList args.toList (s.fn H (ds ++ gs)).args p := by rw [hs]; exact hargs
  have hres2 : ∀ (b : Nat) (sp : Nat → Bool) (hd : Bool), DataW.TrodAll enc P W' b sp hd f.resultTypes.toList ((Value.bool true).resultList f.resultTypes.size) (s.fn H (ds ++ gs)).results [] := by rw [hs]; exact hres
  have hvars2 : ∀ sp : Nat → Bool, (∀ x ∈ q, sp x.block = true) → DataW.TrodVars enc P W' sp s.vars (s.fn H (ds ++ gs)).vars q := by rw [hs]; exact hvars
  refine ⟨ds, gs, p ++ q, [], p, q, hW', hres2 _ _ _, hargs2 _ oldp, hvars2 _ oldq, World.keptBut_mono (fun x hx => ⟨hx, .inr (List.mem_append.1 hx)⟩) (hg.frame (· ∈ p ++ q)), fun _ => ?_⟩
  refine ⟨ok_one hrt rfl (okWide_bool_mk hb true), _, _, ([] ++ p) ++ q, ⟨[] ++ p, q, trodAll_append (hargs2 _ (fun _ _ => rfl)) (hres2 _ _ _), hvars2 _ (fun _ _ => rfl), rfl, ?_, ?_⟩, ?_⟩
  · intro b off hp
    have hp' : MemPlace.cell b off ∈ p ++ q := by simpa using hp
    have hbl := hlt _ hp'
    rw [hg.frozen (p := ⟨b, off, none⟩) hbl]
    exact hz b off hp'
  · intro h; cases h
  · intro x hx _
    simpa using hx
theorem law_contractV {f : FuncId} {fn : Func} {s : ChangeSpec} {tb : TypeId} (hT : closedT P Ts = true) (hl : laidOutB P = true) (hty : typesOK P Ts fn.params.toList = true) (hvar : s.vars.all (varOK P) = true) (hrt : fn.resultTypes = #[tb]) (hb : P.underlying tb = some .bool)
    (hcon : ∀ rows, HasAll P fn.params.toList rows → Con P noMv f (argsAV P fn.params.toList rows) [] (fun r h => r = bool true ∧ h = []))
    {W : World} {base : Nat} {args : Array Value} {ds gs : List (DataW H)} {before : List MemPlace} (hs : ds.length = fn.params.toList.length → gs.length = s.vars.length → s.fn H (ds ++ gs) = { results := [.lit (.bool true)], args := ds, vars := gs })
    (hval : ∀ (j : Nat) t v, fn.params[j]? = some t → args[j]? = some v → Value.okWide P W .any base t v)
    (hW : DataW.Whole enc P fn.params.toList s.vars false W args.toList ds gs before) (hgl : GOK P (fun _ => False) noN W) :
    Calls P f args W fun e W' => ∃ v, e = .returned v ∧ s.post enc P fn false true false false W args v W' := by
  have hW' := hW
  obtain ⟨p, q, hA, hV, hpq, hz, hn⟩ := hW
  obtain ⟨h1, rows, h2, h3⟩ := args_AR hT (fun t ht => by
    have := List.all_eq_true.1 hty t ht
    simp only [Bool.and_eq_true] at this
    exact membN_iff.1 this.1.1) (fun j t v hj hv => hval j t v (by simpa using hj) (by simpa using hv)) hA
  have h4 := hcon rows h2 (fun _ => False) noN W args.toList (fun _ h => h.elim) (fun e b h => by cases h) ⟨fun e e' b h => (by cases h), fun e b h => (by cases h), fun e b h => (by cases h), fun e ob h => (by simp [get] at h)⟩ h3 hgl
  refine h4.mono ?_
  rintro e W' ⟨v, r, h', β', rfl, ⟨rfl, rfl⟩, hr, _, F, _⟩
  rw [AR, DR] at hr
  subst hr
  exact ⟨_, rfl, law_postV hl hty hvar hrt hb (hs h1 (trodVars_len hV)) hW' ⟨F.os, F.tape, F.output, F.size, fun b hb' => F.same b hb' (fun e h => by cases h)⟩⟩
end
end Go.AM
